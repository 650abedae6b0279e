import PyProof.Rows.All
import Wide.All
import OpenK.AllK
import Wide.FinOn
import KE.KStateDown
import Lean
import HandS.ForMost
import HandS.WordsExc
import HandS.Defaults
import HandS.Head0
import HandS.Head1
import HandS.Head2
import HandS.HeadEnd
import HandS.HeadHook1
import HandS.HeadHook2
import HandS.Wide
import HandS.Deep
import KE.SortData
import HandS.More
import HandS.IsInst
import HandS.Conv
import HandS.ListItems
import KE.KDictList
import PySem.Challenge.RW_batchpipe_k41_may_blend
set_option Elab.async false
set_option linter.all false
set_option maxRecDepth 100000
set_option maxHeartbeats 2000000
/-! DS1: values as data (trees) over the hand layer: what stands frozen in the heap is a tree, what is changed in place is a cell. -/
namespace DS
open PySem PySem.Spec PyProof.Rows L2

/-- a value as data: an atom (a scalar, a cell's or any other address), a frozen tuple, list (ro: a list that is only read), instance -/
inductive D where
  | v (x : V)
  | tup (xs : List D)
  | lst (xs : List D)
  | ro (xs : List D)
  | obj (C : Addr) (ns : List Str) (xs : List D)

abbrev D.i (n : Int) : D := .v (.int n)
abbrev D.b (n : Bool) : D := .v (.bl n)
abbrev D.s (n : Str) : D := .v (.str n)
abbrev D.n : D := .v .non
abbrev D.r (a : Addr) : D := .v (.ref a)

mutual
def Rep (K : PySem.W.Frag) (F : Hp) : D → V → Prop
  | .v y, x => x = y
  | .tup ds, x => ∃ a xs, x = .ref a ∧ SqT K F a xs ∧ RepL K F ds xs
  | .lst ds, x => ∃ a xs, x = .ref a ∧ F a = some (.lst xs) ∧ RepL K F ds xs
  | .ro ds, x => ∃ a xs, x = .ref a ∧ SqL K F a xs ∧ RepL K F ds xs
  | .obj C ns ds, x => ∃ a dx xs, x = .ref a ∧ F a = some (.ins C dx (ns.zip xs)) ∧ ns.length = ds.length ∧ RepL K F ds xs
def RepL (K : PySem.W.Frag) (F : Hp) : List D → List V → Prop
  | [], xs => xs = []
  | d :: ds, xs => ∃ x r, xs = x :: r ∧ Rep K F d x ∧ RepL K F ds r
end

/-- what may be changed in place -/
inductive Cell where
  | lst (xs : List D)
  | dct (kvs : List (Key × D))
  | obj (C : Addr) (ns : List Str) (xs : List D)

abbrev Mem := Addr → Option Cell
abbrev DEnv := List (Option D)

def updM (M : Mem) (a : Addr) (c : Cell) : Mem := fun b => if b = a then some c else M b
def rmM (M : Mem) (a : Addr) : Mem := fun b => if b = a then none else M b
theorem updM_same {M : Mem} {a : Addr} {c : Cell} : updM M a c a = some c := by unfold updM; rw [if_pos rfl]
theorem updM_ne {M : Mem} {a b : Addr} {c : Cell} (h : b ≠ a) : updM M a c b = M b := by unfold updM; rw [if_neg h]
theorem updM_updM {M : Mem} {a : Addr} {c c' : Cell} : updM (updM M a c) a c' = updM M a c' := by
  funext b; unfold updM; split <;> rfl
theorem rmM_ne {M : Mem} {a b : Addr} (h : b ≠ a) : rmM M a b = M b := by unfold rmM; rw [if_neg h]
theorem rmM_same {M : Mem} {a : Addr} : rmM M a a = none := by unfold rmM; rw [if_pos rfl]

/-- pairs with the same key and represented values -/
abbrev RepP (K : PySem.W.Frag) (F : Hp) {κ : Type} : List (κ × D) → List (κ × V) → Prop := Paired fun (p : κ × D) (q : κ × V) => p.1 = q.1 ∧ Rep K F p.2 q.2

def CRep (K : PySem.W.Frag) (F H : Hp) (a : Addr) : Cell → Prop
  | .lst ds => ∃ xs, H a = some (.lst xs) ∧ RepL K F ds xs
  | .dct kvs => ∃ ks, H a = some (.dK ks) ∧ RepP K F kvs ks
  | .obj C ns ds => ∃ dx xs, H a = some (.ins C dx (ns.zip xs)) ∧ ns.length = ds.length ∧ RepL K F ds xs

structure MAbs (K : PySem.W.Frag) (F H : Hp) (M : Mem) : Prop where
  same : Same F H
  mem : ∀ a c, M a = some c → F a = none ∧ CRep K F H a c

def ERep (K : PySem.W.Frag) (F : Hp) (σ : L2.St) (E : DEnv) : Prop :=
  E.length = σ.length ∧ ∀ (i : Nat) (d : D), E[i]? = some (some d) → ∃ v, σ[i]? = some (some v) ∧ Rep K F d v

structure Abs (K : PySem.W.Frag) (F : Hp) (σ : L2.St) (H : Hp) (E : DEnv) (M : Mem) : Prop where
  m : MAbs K F H M
  e : ERep K F σ E

structure Step (F H : Hp) (M : Mem) (F' H' : Hp) (M' : Mem) : Prop where
  grow : Same F F'
  frame : ∀ a o, H a = some o → F a = none → M a = none → H' a = some o ∧ F' a = none ∧ M' a = none

theorem Step.refl {F H : Hp} {M : Mem} : Step F H M F H M := ⟨Same.refl F, fun _ _ h f m => ⟨h, f, m⟩⟩
theorem Step.trans {F H F1 H1 F2 H2 : Hp} {M M1 M2 : Mem} (a : Step F H M F1 H1 M1) (b : Step F1 H1 M1 F2 H2 M2) : Step F H M F2 H2 M2 :=
  ⟨a.grow.trans b.grow, fun x o h f m => by
    obtain ⟨h1, f1, m1⟩ := a.frame x o h f m
    exact b.frame x o h1 f1 m1⟩

theorem SqT.mono {K : PySem.W.Frag} {F F' : Hp} {a : Addr} {xs : List V} (e : Same F F') (h : SqT K F a xs) : SqT K F' a xs := by
  rcases h with (h | ⟨o, h⟩) | h
  · exact .inl (.inl (e _ _ h))
  · exact .inl (.inr ⟨o, e _ _ h⟩)
  · exact .inr h
theorem SqL.mono {K : PySem.W.Frag} {F F' : Hp} {a : Addr} {xs : List V} (e : Same F F') (h : SqL K F a xs) : SqL K F' a xs := e.seq h

mutual
theorem Rep.mono {K : PySem.W.Frag} {F F' : Hp} (e : Same F F') : ∀ {d : D} {x : V}, Rep K F d x → Rep K F' d x
  | .v y, x, h => by
    unfold Rep at h ⊢
    exact h
  | .tup ds, x, h => by
    unfold Rep at h ⊢
    obtain ⟨a, xs, r, s, t⟩ := h
    exact ⟨a, xs, r, SqT.mono e s, RepL.mono e t⟩
  | .lst ds, x, h => by
    unfold Rep at h ⊢
    obtain ⟨a, xs, r, s, t⟩ := h
    exact ⟨a, xs, r, e _ _ s, RepL.mono e t⟩
  | .ro ds, x, h => by
    unfold Rep at h ⊢
    obtain ⟨a, xs, r, s, t⟩ := h
    exact ⟨a, xs, r, SqL.mono e s, RepL.mono e t⟩
  | .obj C ns ds, x, h => by
    unfold Rep at h ⊢
    obtain ⟨a, dx, xs, r, s, l, t⟩ := h
    exact ⟨a, dx, xs, r, e _ _ s, l, RepL.mono e t⟩
theorem RepL.mono {K : PySem.W.Frag} {F F' : Hp} (e : Same F F') : ∀ {ds : List D} {xs : List V}, RepL K F ds xs → RepL K F' ds xs
  | [], xs, h => by
    unfold RepL at h ⊢
    exact h
  | d :: ds, xs, h => by
    unfold RepL at h ⊢
    obtain ⟨x, r, z, h1, h2⟩ := h
    exact ⟨x, r, z, Rep.mono e h1, RepL.mono e h2⟩
end

section
variable {K : PySem.W.Frag} {F F' H H' : Hp} {M M' : Mem} {a b : Addr} {d : D} {ds : List D} {x : V} {xs : List V} {σ : L2.St} {E : DEnv}

theorem Rep.v_iff {y : V} : Rep K F (.v y) x ↔ x = y := by unfold Rep; exact Iff.rfl
theorem Rep.v_eq {y : V} (h : Rep K F (.v y) x) : x = y := Rep.v_iff.mp h
theorem Rep.of_v {y : V} : Rep K F (.v y) y := Rep.v_iff.mpr rfl
theorem Rep.tup_iff : Rep K F (.tup ds) x ↔ ∃ a xs, x = .ref a ∧ SqT K F a xs ∧ RepL K F ds xs := by
  conv => lhs; unfold Rep
theorem Rep.lst_iff : Rep K F (.lst ds) x ↔ ∃ a xs, x = .ref a ∧ F a = some (.lst xs) ∧ RepL K F ds xs := by
  conv => lhs; unfold Rep
theorem Rep.ro_iff : Rep K F (.ro ds) x ↔ ∃ a xs, x = .ref a ∧ SqL K F a xs ∧ RepL K F ds xs := by
  conv => lhs; unfold Rep
theorem Rep.obj_iff {C : Addr} {ns : List Str} : Rep K F (.obj C ns ds) x ↔ ∃ a dx xs, x = .ref a ∧ F a = some (.ins C dx (ns.zip xs)) ∧ ns.length = ds.length ∧ RepL K F ds xs := by
  conv => lhs; unfold Rep
theorem RepL.nil_iff : RepL K F [] xs ↔ xs = [] := by unfold RepL; exact Iff.rfl
theorem RepL.cons_iff : RepL K F (d :: ds) xs ↔ ∃ x r, xs = x :: r ∧ Rep K F d x ∧ RepL K F ds r := by
  conv => lhs; unfold RepL
theorem RepL.nil : RepL K F [] [] := RepL.nil_iff.mpr rfl
theorem RepL.cons (h : Rep K F d x) (t : RepL K F ds xs) : RepL K F (d :: ds) (x :: xs) := RepL.cons_iff.mpr ⟨x, xs, rfl, h, t⟩

theorem RepL.length : ∀ {ds : List D} {xs : List V}, RepL K F ds xs → ds.length = xs.length
  | [], xs, h => by
    rw [RepL.nil_iff.mp h]
    rfl
  | d :: ds, xs, h => by
    obtain ⟨x, r, rfl, _, t⟩ := RepL.cons_iff.mp h
    rw [List.length_cons, List.length_cons, t.length]
theorem RepL.get : ∀ {ds : List D} {xs : List V} {i : Nat} {d : D}, RepL K F ds xs → ds[i]? = some d → ∃ x, xs[i]? = some x ∧ Rep K F d x
  | [], _, _, _, _, e => by simp at e
  | d :: ds, xs, 0, d', h, e => by
    obtain ⟨x, r, rfl, h1, t⟩ := RepL.cons_iff.mp h
    simp at e
    subst e
    exact ⟨x, rfl, h1⟩
  | d :: ds, xs, i + 1, d', h, e => by
    obtain ⟨x, r, rfl, h1, t⟩ := RepL.cons_iff.mp h
    obtain ⟨y, e1, e2⟩ := RepL.get (i := i) t (by simpa using e)
    exact ⟨y, by simpa using e1, e2⟩
theorem RepL.getV : ∀ {ds : List D} {xs : List V} {i : Nat} {x : V}, RepL K F ds xs → xs[i]? = some x → ∃ d, ds[i]? = some d ∧ Rep K F d x
  | [], xs, i, x, h, e => by
    rw [RepL.nil_iff.mp h] at e
    simp at e
  | d :: ds, xs, i, x', h, e => by
    obtain ⟨x, r, rfl, h1, t⟩ := RepL.cons_iff.mp h
    cases i with
    | zero =>
      simp at e
      subst e
      exact ⟨d, rfl, h1⟩
    | succ i =>
      obtain ⟨y, e1, e2⟩ := RepL.getV (i := i) t (by simpa using e)
      exact ⟨y, by simpa using e1, e2⟩
theorem RepL.append : ∀ {ds es : List D} {xs ys : List V}, RepL K F ds xs → RepL K F es ys → RepL K F (ds ++ es) (xs ++ ys)
  | [], es, xs, ys, h, g => by
    rw [RepL.nil_iff.mp h]
    exact g
  | d :: ds, es, xs, ys, h, g => by
    obtain ⟨x, r, rfl, h1, t⟩ := RepL.cons_iff.mp h
    exact .cons h1 (t.append g)
theorem RepL.snoc (h : RepL K F ds xs) (g : Rep K F d x) : RepL K F (ds ++ [d]) (xs ++ [x]) := h.append (.cons g .nil)
theorem RepL.take : ∀ {ds : List D} {xs : List V} (n : Nat), RepL K F ds xs → RepL K F (ds.take n) (xs.take n)
  | ds, xs, 0, _ => by simpa using RepL.nil
  | [], xs, n + 1, h => by
    rw [RepL.nil_iff.mp h]
    exact RepL.nil
  | d :: ds, xs, n + 1, h => by
    obtain ⟨x, r, rfl, h1, t⟩ := RepL.cons_iff.mp h
    exact .cons h1 (t.take n)
theorem RepL.drop : ∀ {ds : List D} {xs : List V} (n : Nat), RepL K F ds xs → RepL K F (ds.drop n) (xs.drop n)
  | ds, xs, 0, h => by simpa using h
  | [], xs, n + 1, h => by
    rw [RepL.nil_iff.mp h]
    exact RepL.nil
  | d :: ds, xs, n + 1, h => by
    obtain ⟨x, r, rfl, h1, t⟩ := RepL.cons_iff.mp h
    exact t.drop n
theorem RepL.set (h : Rep K F d x) : ∀ {ds : List D} {xs : List V} (i : Nat), RepL K F ds xs → RepL K F (ds.set i d) (xs.set i x)
  | [], xs, i, g => by
    rw [RepL.nil_iff.mp g]
    exact RepL.nil
  | d' :: ds, xs, 0, g => by
    obtain ⟨y, r, rfl, h1, t⟩ := RepL.cons_iff.mp g
    exact .cons h t
  | d' :: ds, xs, i + 1, g => by
    obtain ⟨y, r, rfl, h1, t⟩ := RepL.cons_iff.mp g
    exact .cons h1 (RepL.set h i t)
theorem RepL.reverse : ∀ {ds : List D} {xs : List V}, RepL K F ds xs → RepL K F ds.reverse xs.reverse
  | [], xs, h => by
    rw [RepL.nil_iff.mp h]
    exact RepL.nil
  | d :: ds, xs, h => by
    obtain ⟨x, r, rfl, h1, t⟩ := RepL.cons_iff.mp h
    rw [List.reverse_cons, List.reverse_cons]
    exact t.reverse.snoc h1
theorem RepL.dropLast (h : RepL K F ds xs) : RepL K F ds.dropLast xs.dropLast := by
  rw [List.dropLast_eq_take, List.dropLast_eq_take, h.length]
  exact h.take _
theorem RepL.eraseIdx : ∀ {ds : List D} {xs : List V} (i : Nat), RepL K F ds xs → RepL K F (ds.eraseIdx i) (xs.eraseIdx i)
  | [], xs, i, h => by
    rw [RepL.nil_iff.mp h]
    exact RepL.nil
  | d :: ds, xs, 0, h => by
    obtain ⟨x, r, rfl, h1, t⟩ := RepL.cons_iff.mp h
    exact t
  | d :: ds, xs, i + 1, h => by
    obtain ⟨x, r, rfl, h1, t⟩ := RepL.cons_iff.mp h
    exact .cons h1 (t.eraseIdx i)
/-- scalars in a row -/
theorem RepL.vs : ∀ {ys xs : List V}, RepL K F (ys.map D.v) xs → xs = ys
  | [], xs, h => RepL.nil_iff.mp h
  | y :: ys, xs, h => by
    obtain ⟨x, r, rfl, h1, t⟩ := RepL.cons_iff.mp h
    rw [Rep.v_eq h1, RepL.vs t]
theorem RepL.of_vs : ∀ {ys : List V}, RepL K F (ys.map D.v) ys
  | [] => RepL.nil
  | y :: ys => .cons Rep.of_v RepL.of_vs

theorem RepP.mono {κ : Type} {kvs : List (κ × D)} {ks : List (κ × V)} (e : Same F F') (h : RepP K F kvs ks) : RepP K F' kvs ks := Paired.mapP h fun p q z => ⟨z.1, Rep.mono e z.2⟩
theorem CRep.mono {c : Cell} (e : Same F F') (hH : H' a = H a) (h : CRep K F H a c) : CRep K F' H' a c := by
  cases c with
  | lst ds =>
    obtain ⟨xs, h1, h2⟩ := h
    exact ⟨xs, by rw [hH]; exact h1, h2.mono e⟩
  | dct kvs =>
    obtain ⟨ks, h1, h2⟩ := h
    exact ⟨ks, by rw [hH]; exact h1, RepP.mono e h2⟩
  | obj C ns ds =>
    obtain ⟨dx, xs, h1, l, h2⟩ := h
    exact ⟨dx, xs, by rw [hH]; exact h1, l, h2.mono e⟩
theorem CRep.there {c : Cell} (h : CRep K F H a c) : ∃ o, H a = some o := by
  cases c with
  | lst ds => obtain ⟨xs, h1, _⟩ := h; exact ⟨_, h1⟩
  | dct kvs => obtain ⟨ks, h1, _⟩ := h; exact ⟨_, h1⟩
  | obj C ns ds => obtain ⟨dx, xs, h1, _⟩ := h; exact ⟨_, h1⟩
theorem ERep.mono (e : Same F F') (h : ERep K F σ E) : ERep K F' σ E := ⟨h.1, fun i d q => by
  obtain ⟨v, e1, e2⟩ := h.2 i d q
  exact ⟨v, e1, e2.mono e⟩⟩
theorem MAbs.free (A : MAbs K F H M) (h : H a = none) : F a = none ∧ M a = none := by
  refine ⟨A.same.free h, ?_⟩
  cases q : M a with
  | none => rfl
  | some c =>
    obtain ⟨o, e⟩ := (A.mem a c q).2.there
    rw [h] at e
    cases e
theorem MAbs.tupF (A : MAbs K F H M) (h : SqT K F a xs) : SqT K H a xs := SqT.mono A.same h
theorem MAbs.lstF (A : MAbs K F H M) (h : SqL K F a xs) : SqL K H a xs := SqL.mono A.same h

/-- a new frozen object at p -/
theorem MAbs.froz {p : Addr} {o : HO} (A : MAbs K F H M) (hp : H p = none) : Step F H M (upd F p o) (upd H p o) M ∧ MAbs K (upd F p o) (upd H p o) M := by
  obtain ⟨hf, hm⟩ := A.free hp
  have g : Same F (upd F p o) := fun b u e => by
    rw [upd_ne (ne_of_none e hf)]
    exact e
  refine ⟨⟨g, fun b u h f m => ?_⟩, ⟨fun b u e => ?_, fun b c e => ?_⟩⟩
  · have ne : b ≠ p := ne_of_none h hp
    exact ⟨by rw [upd_ne ne]; exact h, by rw [upd_ne ne]; exact f, m⟩
  · by_cases hb : b = p
    · subst hb
      rw [upd_same] at e ⊢
      exact e
    · rw [upd_ne hb] at e ⊢
      exact A.same b u e
  · have ne : b ≠ p := by
      rintro rfl
      rw [hm] at e
      cases e
    obtain ⟨f, c'⟩ := A.mem b c e
    exact ⟨by rw [upd_ne ne]; exact f, c'.mono g (by rw [upd_ne ne])⟩
/-- a new cell at p -/
theorem MAbs.cell {p : Addr} {o : HO} {c : Cell} (A : MAbs K F H M) (hp : H p = none) (hc : CRep K F (upd H p o) p c) : Step F H M F (upd H p o) (updM M p c) ∧ MAbs K F (upd H p o) (updM M p c) := by
  obtain ⟨hf, hm⟩ := A.free hp
  refine ⟨⟨Same.refl F, fun b u h f m => ?_⟩, ⟨fun b u e => ?_, fun b c' e => ?_⟩⟩
  · have ne : b ≠ p := ne_of_none h hp
    exact ⟨by rw [upd_ne ne]; exact h, f, by rw [updM_ne ne]; exact m⟩
  · rw [upd_ne (ne_of_none e hf)]
    exact A.same b u e
  · by_cases hb : b = p
    · subst hb
      rw [updM_same] at e
      cases e
      exact ⟨hf, hc⟩
    · rw [updM_ne hb] at e
      obtain ⟨f, c2⟩ := A.mem b c' e
      exact ⟨f, c2.mono (Same.refl F) (by rw [upd_ne hb])⟩
/-- a cell changed -/
theorem MAbs.write {p : Addr} {o : HO} {c c0 : Cell} (A : MAbs K F H M) (hp : M p = some c0) (hc : CRep K F (upd H p o) p c) : Step F H M F (upd H p o) (updM M p c) ∧ MAbs K F (upd H p o) (updM M p c) := by
  obtain ⟨hf, _⟩ := A.mem p c0 hp
  refine ⟨⟨Same.refl F, fun b u h f m => ?_⟩, ⟨fun b u e => ?_, fun b c' e => ?_⟩⟩
  · have ne : b ≠ p := by
      rintro rfl
      rw [hp] at m
      cases m
    exact ⟨by rw [upd_ne ne]; exact h, f, by rw [updM_ne ne]; exact m⟩
  · rw [upd_ne (ne_of_none e hf)]
    exact A.same b u e
  · by_cases hb : b = p
    · subst hb
      rw [updM_same] at e
      cases e
      exact ⟨hf, hc⟩
    · rw [updM_ne hb] at e
      obtain ⟨f, c2⟩ := A.mem b c' e
      exact ⟨f, c2.mono (Same.refl F) (by rw [upd_ne hb])⟩
/-- a cell frozen: the heap stays -/
theorem MAbs.freeze {p : Addr} {o : HO} {c0 : Cell} (A : MAbs K F H M) (hp : M p = some c0) (ho : H p = some o) : Step F H M (upd F p o) H (rmM M p) ∧ MAbs K (upd F p o) H (rmM M p) := by
  obtain ⟨hf, _⟩ := A.mem p c0 hp
  have g : Same F (upd F p o) := fun b u e => by
    rw [upd_ne (ne_of_none e hf)]
    exact e
  refine ⟨⟨g, fun b u h f m => ?_⟩, ⟨fun b u e => ?_, fun b c' e => ?_⟩⟩
  · have ne : b ≠ p := by
      rintro rfl
      rw [hp] at m
      cases m
    exact ⟨h, by rw [upd_ne ne]; exact f, by rw [rmM_ne ne]; exact m⟩
  · by_cases hb : b = p
    · subst hb
      rw [upd_same] at e
      cases e
      exact ho
    · rw [upd_ne hb] at e
      exact A.same b u e
  · by_cases hb : b = p
    · subst hb
      rw [rmM_same] at e
      cases e
    · rw [rmM_ne hb] at e
      obtain ⟨f, c2⟩ := A.mem b c' e
      exact ⟨by rw [upd_ne hb]; exact f, c2.mono g rfl⟩
/-- cells forgotten -/
def SubM (M' M : Mem) : Prop := ∀ a c, M' a = some c → M a = some c
theorem SubM.refl (M : Mem) : SubM M M := fun _ _ h => h
theorem SubM.trans {M M1 M2 : Mem} (a : SubM M M1) (b : SubM M1 M2) : SubM M M2 := fun x c h => b x c (a x c h)
theorem MAbs.sub (A : MAbs K F H M) (s : SubM M' M) : Step F H M F H M' ∧ MAbs K F H M' := by
  refine ⟨⟨Same.refl F, fun b u h f m => ⟨h, f, ?_⟩⟩, ⟨A.same, fun b c e => A.mem b c (s b c e)⟩⟩
  cases q : M' b with
  | none => rfl
  | some c =>
    rw [s b c q] at m
    cases m
end
end DS

set_option Elab.async false
set_option linter.all false
set_option maxRecDepth 100000
set_option maxHeartbeats 2000000
/-! DS2: the judgements over data: a reading by data (d), lifted to the hand layer's reading (t). -/
namespace DS
open PySem PySem.Spec PyProof.Rows L2

abbrev DK := D → DEnv → Mem → Prop
abbrev DTE := DEnv → Mem → DK → Prop
abbrev DTT := DEnv → Mem → (Bool → DEnv → Mem → Prop) → Prop
abbrev DTA := DEnv → Mem → (List D → DEnv → Mem → Prop) → Prop
structure DEnds where
  nx : DEnv → Mem → Prop
  rt : D → Mem → Prop
  bk : DEnv → Mem → Prop := fun _ _ => False
  ct : DEnv → Mem → Prop := fun _ _ => False
abbrev DTS := DEnds → DEnv → Mem → Prop

section
variable (K : PySem.W.Frag)
def LiftE (t : TE) (d : DTE) : Prop := ∀ (F : Hp) (σ : L2.St) (H : Hp) (E : DEnv) (M : Mem) (Q : DK) (P : VK), Abs K F σ H E M → d E M Q →
  (∀ F' H' E' M' r v, Step F H M F' H' M' → Abs K F' σ H' E' M' → Rep K F' r v → Q r E' M' → P v H') → t σ H P
def LiftT (t : TT) (d : DTT) : Prop := ∀ (F : Hp) (σ : L2.St) (H : Hp) (E : DEnv) (M : Mem) (Q : Bool → DEnv → Mem → Prop) (P : Bool → Hp → Prop), Abs K F σ H E M → d E M Q →
  (∀ F' H' E' M' b, Step F H M F' H' M' → Abs K F' σ H' E' M' → Q b E' M' → P b H') → t σ H P
def LiftA (t : TA) (d : DTA) : Prop := ∀ (F : Hp) (σ : L2.St) (H : Hp) (E : DEnv) (M : Mem) (Q : List D → DEnv → Mem → Prop) (P : List V → Hp → Prop), Abs K F σ H E M → d E M Q →
  (∀ F' H' E' M' rs vs, Step F H M F' H' M' → Abs K F' σ H' E' M' → RepL K F' rs vs → Q rs E' M' → P vs H') → t σ H P
def LiftS (t : TS) (d : DTS) : Prop := ∀ (F : Hp) (σ : L2.St) (H : Hp) (E : DEnv) (M : Mem) (A : DEnds) (P : Ends), Abs K F σ H E M → d A E M →
  (∀ F' σ' H' E' M', Step F H M F' H' M' → Abs K F' σ' H' E' M' → (A.nx E' M' → P.nx σ' H') ∧ (A.bk E' M' → P.bk σ' H') ∧ (A.ct E' M' → P.ct σ' H')) →
  (∀ F' H' M' r v, Step F H M F' H' M' → MAbs K F' H' M' → Rep K F' r v → A.rt r M' → P.rt v H') → t P σ H
abbrev DR2 := D → D → Mem → (D → Mem → Prop) → Prop
def LiftR2 (r : R2) (dr : DR2) : Prop := ∀ (F H : Hp) (M : Mem) (d e : D) (x y : V) (Q : D → Mem → Prop) (P : VK), MAbs K F H M → Rep K F d x → Rep K F e y → dr d e M Q →
  (∀ F' H' M' z v, Step F H M F' H' M' → MAbs K F' H' M' → Rep K F' z v → Q z M' → P v H') → r x y H P
abbrev DR1 := D → Mem → (D → Mem → Prop) → Prop
def LiftR1 (r : V → Hp → VK → Prop) (dr : DR1) : Prop := ∀ (F H : Hp) (M : Mem) (d : D) (x : V) (Q : D → Mem → Prop) (P : VK), MAbs K F H M → Rep K F d x → dr d M Q →
  (∀ F' H' M' z v, Step F H M F' H' M' → MAbs K F' H' M' → Rep K F' z v → Q z M' → P v H') → r x H P
abbrev DRL := List D → Mem → (D → Mem → Prop) → Prop
def LiftRL (r : List V → Hp → VK → Prop) (dr : DRL) : Prop := ∀ (F H : Hp) (M : Mem) (ds : List D) (xs : List V) (Q : D → Mem → Prop) (P : VK), MAbs K F H M → RepL K F ds xs → dr ds M Q →
  (∀ F' H' M' z v, Step F H M F' H' M' → MAbs K F' H' M' → Rep K F' z v → Q z M' → P v H') → r xs H P
end

structure EE (X : Cx) (e : Expr) (t : TE) (d : DTE) : Prop where
  p : PE X e t
  l : LiftE X.K t d
structure BB (X : Cx) (e : Expr) (t : TT) (d : DTT) : Prop where
  p : PT X e t
  l : LiftT X.K t d
structure BW (X : Cx) (e : Expr) (t : TT) (d : DTT) : Prop where
  p : PW X e t
  l : LiftT X.K t d
structure AA (X : Cx) (es : List Expr) (t : TA) (d : DTA) : Prop where
  p : PA X es t
  l : LiftA X.K t d
structure SS (X : Cx) (s : Stmt) (t : TS) (d : DTS) : Prop where
  p : PS X s t
  l : LiftS X.K t d
structure Ss (X : Cx) (s : List Stmt) (t : TS) (d : DTS) : Prop where
  p : PSs X s t
  l : LiftS X.K t d
/-- an operator by values -/
structure OO (X : Cx) (f : Value → Value → Sem Value) (r : R2) (dr : DR2) : Prop where
  p : OpR X f r
  l : LiftR2 X.K r dr

section
variable {X : Cx}

/-! ### names, constants -/
def dVar (i : Nat) : DTE := fun E M Q => match E[i]? with
  | some (some d) => Q d E M
  | _ => False
theorem lift_var {K : PySem.W.Frag} (i : Nat) : LiftE K (tVar i) (dVar i) := by
  intro F σ H E M Q P A h k
  unfold dVar at h
  cases e : E[i]? with
  | none => rw [e] at h; exact h.elim
  | some o =>
    cases o with
    | none => rw [e] at h; exact h.elim
    | some d =>
      rw [e] at h
      obtain ⟨v, e1, r⟩ := A.e.2 i d e
      exact ⟨v, e1, k F H E M d v Step.refl A r h⟩
theorem ev (i : Nat) {x : Str} {pos : Pos} (hN : X.N[i]? = some x := by rfl) (hv : Vis X.env.scope x := by first | exact Or.inl rfl | exact Or.inr (Or.inl rfl) | exact Or.inr (Or.inr rfl)) (hd : (x == ("__debug__" : Str)) = false := by decide)
    (hcd : (x == ("__classdict__" : Str)) = false := by decide) : EE X (.Name x pos) (tVar i) (dVar i) := ⟨pe_var hN hv hd hcd, lift_var i⟩
def dC (v : V) : DTE := fun E M Q => Q (.v v) E M
theorem lift_c {K : PySem.W.Frag} (v : V) : LiftE K (tC v) (dC v) := fun F σ H E M Q P A h k => k F H E M (.v v) v Step.refl A Rep.of_v h
theorem e_int {i j pos} : EE X (.Constant (.int i) j pos) (tC (.int i)) (dC (.int i)) := ⟨pe_int, lift_c _⟩
theorem e_bl {b j pos} : EE X (.Constant (.bool b) j pos) (tC (.bl b)) (dC (.bl b)) := ⟨pe_bl, lift_c _⟩
theorem e_non {j pos} : EE X (.Constant .none j pos) (tC .non) (dC .non) := ⟨pe_non, lift_c _⟩
theorem e_str {x j pos} : EE X (.Constant (.str x) j pos) (tC (.str x)) (dC (.str x)) := ⟨pe_str, lift_c _⟩

/-! ### operators -/
def dOp (dr : DR2) (da db : DTE) : DTE := fun E M Q => da E M fun x E1 M1 => db E1 M1 fun y E2 M2 => dr x y M2 fun z M3 => Q z E2 M3
theorem lift_op {K : PySem.W.Frag} {ta tb : TE} {da db : DTE} {r : R2} {dr : DR2} (ha : LiftE K ta da) (hb : LiftE K tb db) (hr : LiftR2 K r dr) : LiftE K (tOp r ta tb) (dOp dr da db) := by
  intro F σ H E M Q P A h k
  refine ha F σ H E M _ _ A h fun F1 H1 E1 M1 x v s1 A1 r1 h1 => ?_
  refine hb F1 σ H1 E1 M1 _ _ A1 h1 fun F2 H2 E2 M2 y u s2 A2 r2 h2 => ?_
  refine hr F2 H2 M2 x y v u _ _ A2.m (r1.mono s2.grow) r2 h2 fun F3 H3 M3 z w s3 A3 r3 h3 => ?_
  exact k F3 H3 E2 M3 z w ((s1.trans s2).trans s3) ⟨A3, A2.e.mono s3.grow⟩ r3 h3
theorem e_op {op : Operator} {a b : Expr} {ta tb : TE} {da db : DTE} {r : R2} {dr : DR2} {pos : Pos} (ho : OO X (binaryOp op) r dr) (ha : EE X a ta da) (hb : EE X b tb db) : EE X (.BinOp a op b pos) (tOp r ta tb) (dOp dr da db) :=
  ⟨pe_op ho.p ha.p hb.p, lift_op ha.l hb.l ho.l⟩
theorem e_cmp {op : CmpOp} {a b : Expr} {ta tb : TE} {da db : DTE} {r : R2} {dr : DR2} {pos : Pos} (ho : OO X (compareOp op) r dr) (ha : EE X a ta da) (hb : EE X b tb db) (hm : behindInMarks op b = false := by first | exact nomark _ | rfl) : EE X (.Compare a [op] [b] pos) (tOp r ta tb) (dOp dr da db) :=
  ⟨pe_cmpR ho.p ha.p hb.p hm, lift_op ha.l hb.l ho.l⟩
/-- a value that is a truth value, as a test -/
def dBool (d : DTE) : DTT := fun E M Q => d E M fun x E1 M1 => match x with
  | .v (.bl b) => Q b E1 M1
  | _ => False
theorem lift_test {K : PySem.W.Frag} {t : TE} {d : DTE} (h : LiftE K t d) : LiftT K (tTest t) (dBool d) := by
  intro F σ H E M Q P A hd k
  refine h F σ H E M _ _ A hd fun F1 H1 E1 M1 x v s1 A1 r1 h1 => ?_
  cases x with
  | v y =>
    cases y with
    | bl b =>
      have e := Rep.v_eq r1
      subst e
      exact ⟨b, rfl, k F1 H1 E1 M1 b s1 A1 h1⟩
    | _ => exact False.elim h1
  | _ => exact False.elim h1
theorem b_cmp {op : CmpOp} {a b : Expr} {ta tb : TE} {da db : DTE} {r : R2} {dr : DR2} {pos : Pos} (ho : OO X (compareOp op) r dr) (ha : EE X a ta da) (hb : EE X b tb db) (hm : behindInMarks op b = false := by first | exact nomark _ | rfl) : BB X (.Compare a [op] [b] pos) (tTest (tOp r ta tb)) (dBool (dOp dr da db)) :=
  ⟨pt_cmpR ho.p ha.p hb.p hm, lift_test (lift_op ha.l hb.l ho.l)⟩
theorem b_val {e : Expr} {t : TE} {d : DTE} (h : EE X e t d) (he : ∀ whole, isTrue e X.env whole = (do let v ← whole; standAt e.pos; holding [v] (truthy v)) := by intro _; rfl) : BB X e (tB t) (dBool d) :=
  ⟨pt_val h.p he, lift_test h.l⟩

/-! ### ints -/
def dI2 (C : Int → Int → Prop) (g : Int → Int → V) : DR2 := fun x y M Q => match x, y with
  | .v (.int i), .v (.int j) => C i j ∧ Q (.v (g i j)) M
  | _, _ => False
def dI0 (g : Int → Int → V) : DR2 := fun x y M Q => match x, y with
  | .v (.int i), .v (.int j) => Q (.v (g i j)) M
  | _, _ => False
theorem lift_I {K : PySem.W.Frag} {C : Int → Int → Prop} {g : Int → Int → V} : LiftR2 K (rI C g) (dI2 C g) := by
  intro F H M d e x y Q P A r1 r2 h k
  unfold dI2 at h
  split at h
  · have e1 := Rep.v_eq r1
    have e2 := Rep.v_eq r2
    exact ⟨_, _, e1, e2, h.1, k F H M _ _ Step.refl A Rep.of_v h.2⟩
  · exact h.elim
theorem lift_I0 {K : PySem.W.Frag} {g : Int → Int → V} : LiftR2 K (rI0 g) (dI0 g) := by
  intro F H M d e x y Q P A r1 r2 h k
  unfold dI0 at h
  split at h
  · have e1 := Rep.v_eq r1
    have e2 := Rep.v_eq r2
    exact ⟨_, _, e1, e2, k F H M _ _ Step.refl A Rep.of_v h⟩
  · exact h.elim
theorem o_addI : OO X (binaryOp .Add) (rI0 fun i j => .int (i + j)) (dI0 fun i j => .int (i + j)) := ⟨op_add, lift_I0⟩
theorem o_sub : OO X (binaryOp .Sub) (rI0 fun i j => .int (i - j)) (dI0 fun i j => .int (i - j)) := ⟨op_sub, lift_I0⟩
theorem o_mul : OO X (binaryOp .Mult) (rI CMulW fun i j => .int (i * j)) (dI2 CMulW fun i j => .int (i * j)) := ⟨op_mulW, lift_I⟩
theorem o_div : OO X (binaryOp .FloorDiv) (rI CDivW fun i j => .int (i / j)) (dI2 CDivW fun i j => .int (i / j)) := ⟨op_fdivW, lift_I⟩
theorem o_mod : OO X (binaryOp .Mod) (rI (fun _ j => 0 < j) fun i j => .int (i % j)) (dI2 (fun _ j => 0 < j) fun i j => .int (i % j)) := ⟨op_mod, lift_I⟩
theorem o_lt : OO X (compareOp .Lt) (rI0 fun i j => .bl (decide (i < j))) (dI0 fun i j => .bl (decide (i < j))) := ⟨op_lt, lift_I0⟩
theorem o_le : OO X (compareOp .LtE) (rI0 fun i j => .bl (decide (i ≤ j))) (dI0 fun i j => .bl (decide (i ≤ j))) := ⟨op_le, lift_I0⟩
theorem o_gt : OO X (compareOp .Gt) (rI0 fun i j => .bl (decide (j < i))) (dI0 fun i j => .bl (decide (j < i))) := ⟨op_gt, lift_I0⟩
theorem o_ge : OO X (compareOp .GtE) (rI0 fun i j => .bl (decide (j ≤ i))) (dI0 fun i j => .bl (decide (j ≤ i))) := ⟨op_ge, lift_I0⟩
def dEqS : DR2 := fun x y M Q => match x, y with
  | .v a, .v b => scal a b = true ∧ Q (.v (.bl (decide (a = b)))) M
  | _, _ => False
def dNeS : DR2 := fun x y M Q => match x, y with
  | .v a, .v b => scal a b = true ∧ Q (.v (.bl (!decide (a = b)))) M
  | _, _ => False
theorem lift_eqS {K : PySem.W.Frag} : LiftR2 K rEq dEqS := by
  intro F H M d e x y Q P A r1 r2 h k
  unfold dEqS at h
  split at h
  · have e1 := Rep.v_eq r1
    have e2 := Rep.v_eq r2
    subst e1 e2
    exact ⟨h.1, k F H M _ _ Step.refl A Rep.of_v h.2⟩
  · exact h.elim
theorem lift_neS {K : PySem.W.Frag} : LiftR2 K rNe dNeS := by
  intro F H M d e x y Q P A r1 r2 h k
  unfold dNeS at h
  split at h
  · have e1 := Rep.v_eq r1
    have e2 := Rep.v_eq r2
    subst e1 e2
    exact ⟨h.1, k F H M _ _ Step.refl A Rep.of_v h.2⟩
  · exact h.elim
theorem o_eqS : OO X (compareOp .Eq) rEq dEqS := ⟨op_eq, lift_eqS⟩
theorem o_neS : OO X (compareOp .NotEq) rNe dNeS := ⟨op_ne, lift_neS⟩
def dUn (g : Int → Int) (da : DTE) : DTE := fun E M Q => da E M fun x E1 M1 => match x with
  | .v (.int i) => Q (.v (.int (g i))) E1 M1
  | _ => False
theorem e_neg {a : Expr} {ta : TE} {da : DTE} {pos : Pos} (ha : EE X a ta da) : EE X (.UnaryOp .USub a pos) (tUn (rU fun i => .int (-i)) ta) (dUn (fun i => -i) da) := by
  refine ⟨pe_un un_neg ha.p, ?_⟩
  intro F σ H E M Q P A h k
  refine ha.l F σ H E M _ _ A h fun F1 H1 E1 M1 x v s1 A1 r1 h1 => ?_
  cases x with
  | v y =>
    cases y with
    | int i => exact ⟨i, Rep.v_eq r1, k F1 H1 E1 M1 _ _ s1 A1 Rep.of_v h1⟩
    | _ => exact False.elim h1
  | _ => exact False.elim h1

/-! ### and, or, not, if-else -/
def dAnd (t u : DTT) : DTT := fun E M Q => t E M fun c E1 M1 => if c = true then u E1 M1 Q else Q false E1 M1
def dOr (t u : DTT) : DTT := fun E M Q => t E M fun c E1 M1 => if c = true then Q true E1 M1 else u E1 M1 Q
def dNot (t : DTT) : DTT := fun E M Q => t E M fun c E1 M1 => Q (!c) E1 M1
theorem lift_and {K : PySem.W.Frag} {ta tb : TT} {da db : DTT} (ha : LiftT K ta da) (hb : LiftT K tb db) : LiftT K (tAnd ta tb) (dAnd da db) := by
  intro F σ H E M Q P A h k
  refine ha F σ H E M _ _ A h fun F1 H1 E1 M1 c s1 A1 h1 => ?_
  cases c with
  | true =>
    rw [if_pos rfl] at h1 ⊢
    exact hb F1 σ H1 E1 M1 _ _ A1 h1 fun F2 H2 E2 M2 b s2 A2 h2 => k F2 H2 E2 M2 b (s1.trans s2) A2 h2
  | false =>
    rw [if_neg Bool.false_ne_true] at h1 ⊢
    exact k F1 H1 E1 M1 false s1 A1 h1
theorem lift_or {K : PySem.W.Frag} {ta tb : TT} {da db : DTT} (ha : LiftT K ta da) (hb : LiftT K tb db) : LiftT K (tOr ta tb) (dOr da db) := by
  intro F σ H E M Q P A h k
  refine ha F σ H E M _ _ A h fun F1 H1 E1 M1 c s1 A1 h1 => ?_
  cases c with
  | true =>
    rw [if_pos rfl] at h1 ⊢
    exact k F1 H1 E1 M1 true s1 A1 h1
  | false =>
    rw [if_neg Bool.false_ne_true] at h1 ⊢
    exact hb F1 σ H1 E1 M1 _ _ A1 h1 fun F2 H2 E2 M2 b s2 A2 h2 => k F2 H2 E2 M2 b (s1.trans s2) A2 h2
theorem bw_and1 {a : Expr} {t : TT} {d : DTT} {pos : Pos} (h : BB X a t d) : BW X (.BoolOp .And [a] pos) t d := ⟨pw_and1 h.p, h.l⟩
theorem bw_or1 {a : Expr} {t : TT} {d : DTT} {pos : Pos} (h : BB X a t d) : BW X (.BoolOp .Or [a] pos) t d := ⟨pw_or1 h.p, h.l⟩
theorem bw_and {a b : Expr} {rest : List Expr} {t u : TT} {d e : DTT} {pos : Pos} (h : BB X a t d) (g : BW X (.BoolOp .And (b :: rest) pos) u e) : BW X (.BoolOp .And (a :: b :: rest) pos) (tAnd t u) (dAnd d e) := ⟨pw_and h.p g.p, lift_and h.l g.l⟩
theorem bw_or {a b : Expr} {rest : List Expr} {t u : TT} {d e : DTT} {pos : Pos} (h : BB X a t d) (g : BW X (.BoolOp .Or (b :: rest) pos) u e) : BW X (.BoolOp .Or (a :: b :: rest) pos) (tOr t u) (dOr d e) := ⟨pw_or h.p g.p, lift_or h.l g.l⟩
theorem b_w {e : Expr} {t : TT} {d : DTT} (h : BW X e t d) : BB X e t d := ⟨h.p.pt, h.l⟩
theorem b_not {a : Expr} {t : TT} {d : DTT} {pos : Pos} (hh : BB X a t d) : BB X (.UnaryOp .Not a pos) (tNot t) (dNot d) := by
  refine ⟨pt_not hh.p, ?_⟩
  intro F σ H E M Q P A h k
  exact hh.l F σ H E M _ _ A h fun F1 H1 E1 M1 c s1 A1 h1 => k F1 H1 E1 M1 (!c) s1 A1 h1
def dIfE (c : DTT) (a b : DTE) : DTE := fun E M Q => c E M fun k E1 M1 => if k = true then a E1 M1 Q else b E1 M1 Q
theorem e_if {c a b : Expr} {tc : TT} {ta tb : TE} {dc : DTT} {da db : DTE} {pos : Pos} (hc : BB X c tc dc) (ha : EE X a ta da) (hb : EE X b tb db) : EE X (.IfExp c a b pos) (tIf tc ta tb) (dIfE dc da db) := by
  refine ⟨pe_ifExp hc.p ha.p hb.p, ?_⟩
  intro F σ H E M Q P A h k
  have la := ha.l
  have lb := hb.l
  refine hc.l F σ H E M _ _ A h fun F1 H1 E1 M1 c s1 A1 h1 => ?_
  cases c with
  | true =>
    rw [if_pos rfl] at h1 ⊢
    exact la F1 σ H1 E1 M1 _ _ A1 h1 fun F2 H2 E2 M2 r v s2 A2 r2 h2 => k F2 H2 E2 M2 r v (s1.trans s2) A2 r2 h2
  | false =>
    rw [if_neg Bool.false_ne_true] at h1 ⊢
    exact lb F1 σ H1 E1 M1 _ _ A1 h1 fun F2 H2 E2 M2 r v s2 A2 r2 h2 => k F2 H2 E2 M2 r v (s1.trans s2) A2 r2 h2
/-- a < b < c -/
def dChain (dr dr' : DR2) (da db dc : DTE) : DTE := fun E M Q => da E M fun x E1 M1 => db E1 M1 fun y E2 M2 => dr x y M2 fun z M3 => ∃ k : Bool, z = .v (.bl k) ∧ if k = true then dc E2 M3 fun w E3 M4 => dr' y w M4 fun u M5 => Q u E3 M5 else Q (.v (.bl false)) E2 M3

/-! ### arguments, calls -/
def dANil : DTA := fun E M Q => Q [] E M
def dACons (da : DTE) (dr : DTA) : DTA := fun E M Q => da E M fun x E1 M1 => dr E1 M1 fun xs E2 M2 => Q (x :: xs) E2 M2
theorem a_nil : AA X [] tNil dANil := ⟨pa_nil, fun F σ H E M Q P A h k => k F H E M [] [] Step.refl A RepL.nil h⟩
theorem lift_acons {K : PySem.W.Frag} {te : TE} {t : TA} {de : DTE} {d : DTA} (le : LiftE K te de) (l : LiftA K t d) : LiftA K (tCons te t) (dACons de d) := by
  intro F σ H E M Q P A h k
  refine le F σ H E M _ _ A h fun F1 H1 E1 M1 x v s1 A1 r1 h1 => ?_
  refine l F1 σ H1 E1 M1 _ _ A1 h1 fun F2 H2 E2 M2 xs vs s2 A2 r2 h2 => ?_
  exact k F2 H2 E2 M2 (x :: xs) (v :: vs) (s1.trans s2) A2 (.cons (r1.mono s2.grow) r2) h2
theorem a_cons {e : Expr} {es : List Expr} {te : TE} {t : TA} {de : DTE} {d : DTA} (he : EE X e te de) (hr : AA X es t d) (hs : starEach (e :: es) X.env = (false, eval e X.env) :: starEach es X.env := by rfl) : AA X (e :: es) (tCons te t) (dACons de d) := ⟨pa_cons he.p hr.p hs, lift_acons he.l hr.l⟩

/-- an exception as data: its class, its own fields -/
abbrev DXK := Addr → List (Str × D) → Mem → Prop
def XRep (K : PySem.W.Frag) (F H : Hp) (od : Option Addr) (fs : List (Str × D)) : Prop := fs = [] ∨ ∃ a gs, od = some a ∧ H a = some (.xd gs) ∧ RepP K F fs gs
abbrev DSp := List D → Mem → (D → Mem → Prop) → DXK → Prop
def upSp (K : PySem.W.Frag) (dsp : DSp) : Sp := fun vs H Q E => ∃ F M ds Qd XE, MAbs K F H M ∧ RepL K F ds vs ∧ dsp ds M Qd XE ∧
  (∀ F' H' M' d v, Step F H M F' H' M' → MAbs K F' H' M' → Rep K F' d v → Qd d M' → Q v H') ∧
  (∀ F' H' M' C fs od, Step F H M F' H' M' → MAbs K F' H' M' → XRep K F' H' od fs → XE C fs M' → E (.ref C) od H')
abbrev X0 : DXK := fun _ _ _ => False

def dCall (dsp : DSp) (dvs : List V) (XE : DXK) (da : DTA) : DTE := fun E M Q => da E M fun ds E1 M1 => dsp (ds ++ dvs.map D.v) M1 (fun d M2 => Q d E1 M2) XE
theorem lift_call {K : PySem.W.Frag} {dsp : DSp} {dvs : List V} {t : TA} {d : DTA} (l : LiftA K t d) : LiftE K (tCall (upSp K dsp) dvs E0 t) (dCall dsp dvs X0 d) := by
  intro F σ H E M Q P A h k
  refine l F σ H E M _ _ A h fun F1 H1 E1 M1 rs vs s1 A1 r1 h1 => ?_
  refine ⟨F1, M1, rs ++ dvs.map D.v, _, X0, A1.m, r1.append RepL.of_vs, h1, fun F2 H2 M2 d v s2 A2 r2 h2 => ?_, fun _ _ _ _ _ _ _ _ _ z => z⟩
  exact k F2 H2 E1 M2 d v (s1.trans s2) ⟨A2, A1.e.mono s2.grow⟩ r2 h2
/-- a def of the text by its name: its promise, its defaults -/
structure Fn (P : Program) (w : World) (K : PySem.W.Frag) (mg : Str → Option Value) (base : Heap) (CX : CXT) (k : Nat) (x : Str) (ps : List Str) (dvs : List V) (dsp : DSp) : Prop where
  ex : ∃ f fd ds, mg x = some (.ref f) ∧ PySem.W.keepIn K (.ref f) = true ∧ FnOk P w K mg base CX k f fd ps (upSp K dsp) ∧ Vals dvs ds ∧ Binds K fd ps ds
theorem e_call {k : Nat} {x : Str} {ps : List Str} {dvs : List V} {dsp : DSp} {e : Expr} {es : List Expr} {t : TA} {d : DTA} {p pos : Pos} (G : Fn X.prog X.w X.K X.mg X.base CX0 k x ps dvs dsp) (hr : Room k X.A) (hg : Gl X x) (ha : AA X (e :: es) t d) (hdb : (x == ("__debug__" : Str)) = false := by decide)
    (he : starEach (e :: es) X.env = (false, eval e X.env) :: starEach es X.env := by rfl) (hpl : (backTo pos (starEach es X.env)).any (·.1) = false := by rfl) : EE X (.Call (.Name x p) (e :: es) [] pos) (tCall (upSp X.K dsp) dvs E0 t) (dCall dsp dvs X0 d) := by
  obtain ⟨f, fd, ds, hm, hk, F, hd, hb⟩ := G.ex
  exact ⟨pe_call F hr hg hm hk hb hd pass0 ha.p hdb he hpl, lift_call ha.l⟩
theorem e_call0 {k : Nat} {x : Str} {ps : List Str} {dvs : List V} {dsp : DSp} {p pos : Pos} (G : Fn X.prog X.w X.K X.mg X.base CX0 k x ps dvs dsp) (hr : Room k X.A) (hg : Gl X x) (hdb : (x == ("__debug__" : Str)) = false := by decide) : EE X (.Call (.Name x p) [] [] pos) (tCall (upSp X.K dsp) dvs E0 tNil) (dCall dsp dvs X0 dANil) := by
  obtain ⟨f, fd, ds, hm, hk, F, hd, hb⟩ := G.ex
  exact ⟨pe_call0 F hr hg hm hk hb hd pass0 hdb, lift_call fun F σ H E M Q P A h k => k F H E M [] [] Step.refl A RepL.nil h⟩
end

/-! ### statements -/
section
variable {X : Cx}
def dNext : DTS := fun A E M => A.nx E M
def dSeq (t u : DTS) : DTS := fun A E M => t { A with nx := u A } E M
theorem ss_nil : Ss X [] tNext dNext := ⟨pss_nil, fun F σ H E M A P a h k _ => (k F σ H E M Step.refl a).1 h⟩
theorem lift_seq {K : PySem.W.Frag} {t u : TS} {d e : DTS} (l : LiftS K t d) (m : LiftS K u e) : LiftS K (tSeq t u) (dSeq d e) := by
  intro F σ H E M A P a h k kr
  refine l F σ H E M _ _ a h (fun F1 σ1 H1 E1 M1 s1 a1 => ⟨fun h1 => ?_, fun h1 => ?_, fun h1 => ?_⟩) fun F1 H1 M1 r v s1 a1 r1 h1 => kr F1 H1 M1 r v s1 a1 r1 h1
  · exact m F1 σ1 H1 E1 M1 A P a1 h1 (fun F2 σ2 H2 E2 M2 s2 a2 => k F2 σ2 H2 E2 M2 (s1.trans s2) a2) fun F2 H2 M2 r v s2 a2 r2 h2 => kr F2 H2 M2 r v (s1.trans s2) a2 r2 h2
  · exact (k F1 σ1 H1 E1 M1 s1 a1).2.1 h1
  · exact (k F1 σ1 H1 E1 M1 s1 a1).2.2 h1
theorem ss_cons {s : Stmt} {r : List Stmt} {t u : TS} {d e : DTS} (h : SS X s t d) (g : Ss X r u e) : Ss X (s :: r) (tSeq t u) (dSeq d e) := ⟨pss_cons h.p g.p, lift_seq h.l g.l⟩
theorem ss_one {s : Stmt} {t : TS} {d : DTS} (h : SS X s t d) : Ss X [s] t d := ⟨pss_one h.p, h.l⟩
def dBreak : DTS := fun A E M => A.bk E M
def dCont : DTS := fun A E M => A.ct E M
theorem s_break {pos : Pos} : SS X (.Break pos) tBreak dBreak := ⟨ps_break, fun F σ H E M A P a h k _ => (k F σ H E M Step.refl a).2.1 h⟩
theorem s_continue {pos : Pos} : SS X (.Continue pos) tCont dCont := ⟨ps_continue, fun F σ H E M A P a h k _ => (k F σ H E M Step.refl a).2.2 h⟩
theorem s_pass {pos : Pos} : SS X (.Pass pos) tNext dNext := ⟨ps_pass, fun F σ H E M A P a h k _ => (k F σ H E M Step.refl a).1 h⟩
def dRet (d : DTE) : DTS := fun A E M => d E M fun r _ M1 => A.rt r M1
theorem s_ret {e : Expr} {t : TE} {d : DTE} {pos : Pos} (hh : EE X e t d) : SS X (.Return (some e) pos) (tRet t) (dRet d) := by
  refine ⟨ps_ret hh.p, fun F σ H E M A P a h k kr => ?_⟩
  exact hh.l F σ H E M _ _ a h fun F1 H1 E1 M1 r v s1 a1 r1 h1 => kr F1 H1 M1 r v s1 a1.m r1 h1
def dRetN : DTS := fun A E M => A.rt (.v .non) M
theorem s_retN {pos : Pos} : SS X (.Return none pos) tRetN dRetN := ⟨ps_retN, fun F σ H E M A P a h k kr => kr F H M _ _ Step.refl a.m Rep.of_v h⟩
def dDrop (d : DTE) : DTS := fun A E M => d E M fun _ E1 M1 => A.nx E1 M1
theorem s_expr {e : Expr} {t : TE} {d : DTE} {pos : Pos} (hh : EE X e t d) (hs : swapsWith e none pos.line X.env = pure false := by rfl) : SS X (.Expr e pos) (tDrop t) (dDrop d) := by
  refine ⟨ps_expr hh.p hs, fun F σ H E M A P a h k kr => ?_⟩
  exact hh.l F σ H E M _ _ a h fun F1 H1 E1 M1 r v s1 a1 r1 h1 => (k F1 σ H1 E1 M1 s1 a1).1 h1
def dIfS (c : DTT) (t u : DTS) : DTS := fun A E M => c E M fun b E1 M1 => if b = true then t A E1 M1 else u A E1 M1
theorem s_if {c : Expr} {a b : List Stmt} {tc : TT} {ta tb : TS} {dc : DTT} {da db : DTS} {pos : Pos} (hc : BB X c tc dc) (ha : Ss X a ta da) (hb : Ss X b tb db) : SS X (.If c a b pos) (tIfS tc ta tb) (dIfS dc da db) := by
  have la := ha.l
  have lb := hb.l
  refine ⟨ps_if hc.p ha.p hb.p, fun F σ H E M A P a h k kr => ?_⟩
  refine hc.l F σ H E M _ _ a h fun F1 H1 E1 M1 c s1 a1 h1 => ?_
  cases c with
  | true =>
    rw [if_pos rfl] at h1 ⊢
    exact la F1 σ H1 E1 M1 A P a1 h1 (fun F2 σ2 H2 E2 M2 s2 a2 => k F2 σ2 H2 E2 M2 (s1.trans s2) a2) fun F2 H2 M2 r v s2 a2 r2 h2 => kr F2 H2 M2 r v (s1.trans s2) a2 r2 h2
  | false =>
    rw [if_neg Bool.false_ne_true] at h1 ⊢
    exact lb F1 σ H1 E1 M1 A P a1 h1 (fun F2 σ2 H2 E2 M2 s2 a2 => k F2 σ2 H2 E2 M2 (s1.trans s2) a2) fun F2 H2 M2 r v s2 a2 r2 h2 => kr F2 H2 M2 r v (s1.trans s2) a2 r2 h2
/-- a name stored -/
theorem ERep.set {K : PySem.W.Frag} {F : Hp} {σ : L2.St} {E : DEnv} {d : D} {v : V} (h : ERep K F σ E) (i : Nat) (r : Rep K F d v) : ERep K F (σ.set i (some v)) (E.set i (some d)) := by
  refine ⟨by rw [List.length_set, List.length_set]; exact h.1, fun j c e => ?_⟩
  by_cases hj : i = j
  · subst hj
    rw [List.getElem?_set] at e ⊢
    rw [if_pos rfl] at e ⊢
    split at e
    · rename_i hl
      rw [if_pos (by rw [← h.1]; exact hl)]
      cases e
      exact ⟨v, rfl, r⟩
    · cases e
  · rw [List.getElem?_set_ne hj] at e ⊢
    exact h.2 j c e
def dSet (d : DTE) (i : Nat) : DTS := fun A E M => d E M fun r E1 M1 => A.nx (E1.set i (some r)) M1
theorem s_set {i : Nat} {x : Str} {e : Expr} {t : TE} {d : DTE} {pos' pos : Pos} (hN : X.N.Nodup) (hh : EE X e t d) (hi : X.N[i]? = some x := by rfl) (hx : Loc X.env.scope x := by first | exact Or.inl rfl | exact Or.inr rfl) (hs : swapsWith e (some (.Name x pos')) pos.line X.env = pure false := by rfl) (hf : X.fn x = true ∨ X.env.scope.names.lookup x = some .local := by first | exact .inl rfl | exact .inr rfl | assumption) :
    SS X (.Assign [.Name x pos'] e pos) (tAsg t (gName i)) (dSet d i) := by
  refine ⟨ps_set hN hi hx hh.p hs hf, fun F σ H E M A P a h k kr => ?_⟩
  exact hh.l F σ H E M _ _ a h fun F1 H1 E1 M1 r v s1 a1 r1 h1 => (k F1 _ H1 _ M1 s1 ⟨a1.m, a1.e.set i r1⟩).1 h1
def dPar (i j : Nat) (d : DTA) : DTS := fun A E M => d E M fun rs E1 M1 => match rs with
  | [x, y] => A.nx ((E1.set i (some x)).set j (some y)) M1
  | _ => False
theorem s_par {i j : Nat} {x y : Str} {a b : Expr} {t : TA} {d : DTA} {px py pt pos : Pos} {kt k2 pt2} (hc : X.calm = true) (hN : X.N.Nodup) (hi : X.N[i]? = some x) (hj : X.N[j]? = some y) (hij : i ≠ j)
    (hx : X.env.scope.names.lookup x = some .local) (hy : X.env.scope.names.lookup y = some .local) (ha : AA X [a, b] t d)
    (hw : swappedStores [.Tuple [.Name x px, .Name y py] kt pt] (.Tuple [a, b] k2 pt2) X.env = pure (some [x, y]))
    (hs : swapsWithSole [.Tuple [.Name x px, .Name y py] kt pt] (.Tuple [a, b] k2 pt2) pos.line X.env = pure false := by rfl) :
    SS X (.Assign [.Tuple [.Name x px, .Name y py] kt pt] (.Tuple [a, b] k2 pt2) pos) (tPar i j t) (dPar i j d) := by
  refine ⟨ps_par hc hN hi hj hij hx hy ha.p hw hs, fun F σ H E M A P a h k kr => ?_⟩
  refine ha.l F σ H E M _ _ a h fun F1 H1 E1 M1 rs vs s1 a1 r1 h1 => ?_
  match rs, r1, h1 with
  | [x, y], r1, h1 =>
    obtain ⟨v, r, rfl, q1, r1⟩ := RepL.cons_iff.mp r1
    obtain ⟨u, r, rfl, q2, r1⟩ := RepL.cons_iff.mp r1
    have e := RepL.nil_iff.mp r1
    subst e
    exact ⟨v, u, rfl, (k F1 _ H1 _ M1 s1 ⟨a1.m, (a1.e.set i q1).set j q2⟩).1 h1⟩
  | [], _, h1 => exact h1.elim
  | [_], _, h1 => exact h1.elim
  | _ :: _ :: _ :: _, _, h1 => exact h1.elim

/-! ### while -/
def dWhile (c : DTT) (tb : DTS) : DTS := fun A E M => ∃ W : Nat → DEnv → Mem → Prop, (∃ m, W m E M) ∧ ∀ m E M, W m E M →
  c E M fun b E1 M1 => if b = true then tb { A with nx := fun E' M' => ∃ m', m' < m ∧ W m' E' M', ct := fun E' M' => ∃ m', m' < m ∧ W m' E' M', bk := A.nx } E1 M1 else A.nx E1 M1
theorem s_while {c : Expr} {body : List Stmt} {tc : TT} {tb : TS} {dc : DTT} {db : DTS} {pos : Pos} (hp : PassesOwn (model X.prog X.w) X.A X.env X.xe) (hc : BB X c tc dc) (hb : Ss X body tb db) : SS X (.While c body [] pos) (tWhile tc tb) (dWhile dc db) := by
  have lc := hc.l
  have lb := hb.l
  refine ⟨ps_while hp hc.p hb.p, fun F σ H E M A P a h k kr => ?_⟩
  obtain ⟨W, ⟨m0, w0⟩, turn⟩ := h
  refine ⟨fun m σ' H' => ∃ F' E' M', Step F H M F' H' M' ∧ Abs X.K F' σ' H' E' M' ∧ W m E' M', ⟨m0, F, E, M, Step.refl, a, w0⟩, ?_⟩
  rintro m σ1 H1 ⟨F1, E1, M1, s1, a1, w1⟩
  refine lc F1 σ1 H1 E1 M1 _ _ a1 (turn m E1 M1 w1) fun F2 H2 E2 M2 b s2 a2 h2 => ?_
  cases b with
  | true =>
    rw [if_pos rfl] at h2 ⊢
    refine ⟨fun σ' H' => ∃ F' E' M', Step F H M F' H' M' ∧ Abs X.K F' σ' H' E' M' ∧ ∃ m', m' < m ∧ W m' E' M', fun σ' H' ⟨F', E', M', s', a', m', hm, w'⟩ => ⟨m', hm, F', E', M', s', a', w'⟩, ?_⟩
    refine lb F2 σ1 H2 E2 M2 _ _ a2 h2 (fun F3 σ3 H3 E3 M3 s3 a3 => ⟨fun h3 => ?_, fun h3 => ?_, fun h3 => ?_⟩) fun F3 H3 M3 r v s3 a3 r3 h3 => kr F3 H3 M3 r v ((s1.trans s2).trans s3) a3 r3 h3
    · exact ⟨F3, E3, M3, (s1.trans s2).trans s3, a3, h3⟩
    · exact (k F3 σ3 H3 E3 M3 ((s1.trans s2).trans s3) a3).1 h3
    · exact ⟨F3, E3, M3, (s1.trans s2).trans s3, a3, h3⟩
  | false =>
    rw [if_neg Bool.false_ne_true] at h2 ⊢
    exact (k F2 σ1 H2 E2 M2 (s1.trans s2) a2).1 h2
end

/-! ### tests that are known -/
theorem if_t {c : Bool} {A B : Prop} (h : c = true) (a : A) : if c = true then A else B := by rw [if_pos h]; exact a
theorem if_f {c : Bool} {A B : Prop} (h : c = false) (b : B) : if c = true then A else B := by rw [if_neg (by rw [h]; exact Bool.false_ne_true)]; exact b
theorem if_c {c : Bool} {A B : Prop} (a : c = true → A) (b : c = false → B) : if c = true then A else B := by
  cases c with
  | true => exact if_t rfl (a rfl)
  | false => exact if_f rfl (b rfl)
/-- a test by a proposition -/
theorem if_d {p : Prop} [Decidable p] {A B : Prop} (a : p → A) (b : ¬ p → B) : if decide p = true then A else B := if_c (fun h => a (of_decide_eq_true h)) fun h => b (of_decide_eq_false h)
theorem if_nd {p : Prop} [Decidable p] {A B : Prop} (a : ¬ p → A) (b : p → B) : if (!decide p) = true then A else B := by
  by_cases h : p
  · exact if_f (by rw [decide_eq_true h]; rfl) (b h)
  · exact if_t (by rw [decide_eq_false h]; rfl) (a h)

/-! ### a def -/
def startD (N : List Str) (ds : List D) : DEnv := ds.map some ++ List.replicate (N.length - ds.length) none
theorem erep_start {K : PySem.W.Frag} {F : Hp} {N : List Str} {ds : List D} {vs : List V} (r : RepL K F ds vs) : ERep K F (L2.start N vs) (startD N ds) := by
  have hl := r.length
  refine ⟨by unfold L2.start startD; simp [hl], fun i d e => ?_⟩
  unfold startD at e
  unfold L2.start
  by_cases h : i < ds.length
  · rw [List.getElem?_append_left (by simpa using h)] at e
    rw [List.getElem?_append_left (by simp; omega)]
    rw [List.getElem?_map] at e ⊢
    cases q : ds[i]? with
    | none => rw [q] at e; cases e
    | some d' =>
      rw [q] at e
      cases e
      obtain ⟨x, e1, e2⟩ := r.get q
      rw [e1]
      exact ⟨x, rfl, e2⟩
  · rw [List.getElem?_append_right (by simpa using Nat.le_of_not_lt h)] at e
    rw [List.getElem?_replicate] at e
    split at e <;> cases e
/-- THE RULE for a def -/
theorem fn_mk {P : Program} {w : World} {K : PySem.W.Frag} {mg : Str → Option Value} {base : Heap} {k : Nat} {x qual : Str} {params : Arguments} {body : List Stmt} {scope : Scope} {dvs : List V} {kws : List (Str × V)} {f : Addr} {fd : FuncData} {N ps : List Str} {dsp : DSp}
    (F : FunD K x qual params body scope dvs kws f fd) (S : FnScope N ps scope) (len : ∀ ds M Q XE, dsp ds M Q XE → ds.length = ps.length)
    (hbody : ∀ (cdv : Value) (A : Around) (outer : List Env) (s : Shared) (H : Hp) (E : XK), Room k (A.deeper (envOfC qual scope s.heap.objs.size f cdv)) →
      ∃ t d, Ss (cxOf CX0 P w K mg base N qual scope f cdv A outer s H E).nox body t d ∧ ∀ ds M Q XE, dsp ds M Q XE → d { nx := fun _ M' => ∃ M'', SubM M'' M' ∧ Q (.v .non) M'', rt := fun r M' => ∃ M'', SubM M'' M' ∧ Q r M'' } (startD N ds) M) :
    FnOk P w K mg base CX0 (k + 1) f fd ps (upSp K dsp) := by
  refine F.ok S (fun vs H Q E h => ?_) fun cdv A outer s H vs Q E hr h => ?_
  · obtain ⟨F, M, ds, Qd, XE, m, r, h, _⟩ := h
    rw [← r.length]
    exact len _ _ _ _ h
  · obtain ⟨t, d, ⟨p, l⟩, hd⟩ := hbody cdv A outer s H E hr
    obtain ⟨F, M, ds, Qd, XE, m, r, h, kq, kx⟩ := h
    refine ⟨t, p.nox, ?_⟩
    refine l F _ H _ M _ _ ⟨m, erep_start r⟩ (hd ds M Qd XE h) (fun F1 σ1 H1 E1 M1 s1 a1 => ⟨fun ⟨M2, sb, q⟩ => ?_, fun z => z.elim, fun z => z.elim⟩) fun F1 H1 M1 r v s1 a1 r1 ⟨M2, sb, q⟩ => ?_
    · obtain ⟨s2, a2⟩ := a1.m.sub sb
      exact kq F1 H1 M2 _ _ (s1.trans s2) a2 Rep.of_v q
    · obtain ⟨s2, a2⟩ := a1.sub sb
      exact kq F1 H1 M2 _ _ (s1.trans s2) a2 r1 q
end DS

set_option Elab.async false
set_option linter.all false
set_option maxRecDepth 100000
set_option maxHeartbeats 2000000
/-! DS3: displays, built-ins, indices, slices. -/
namespace DS
open PySem PySem.Spec PyProof.Rows L2
theorem line_of {n : Nat} (h : n ≤ 1000) : n ≤ sizeLine := Nat.le_of_lt (small1000 h)
section
variable {X : Cx}
/-! ### displays -/
def dTup (d : DTA) : DTE := fun E M Q => d E M fun xs E1 M1 => match Nat.ble xs.length 1000 with
  | true => Q (.tup xs) E1 M1
  | false => False
theorem lift_tup {K : PySem.W.Frag} {t : TA} {d : DTA} (l : LiftA K t d) : LiftE K (tTup t) (dTup d) := by
  intro F σ H E M Q P A h k
  refine l F σ H E M _ _ A h fun F1 H1 E1 M1 xs vs s1 A1 r1 h1 => ?_
  split at h1
  · rename_i hb
    refine ⟨line_of (by rw [← r1.length]; exact Nat.le_of_ble_eq_true hb), fun p hp => ?_⟩
    obtain ⟨s2, a2⟩ := A1.m.froz (o := .tup vs) hp
    exact k _ _ E1 M1 (.tup xs) (.ref p) (s1.trans s2) ⟨a2, A1.e.mono s2.grow⟩ (Rep.tup_iff.mpr ⟨p, vs, rfl, .inl (.inl upd_same), r1.mono s2.grow⟩) h1
  · exact h1.elim
theorem e_tup {es : List Expr} {t : TA} {d : DTA} {x1} {pos : Pos} (h : AA X es t d) : EE X (.Tuple es x1 pos) (tTup t) (dTup d) := ⟨pe_tup h.p, lift_tup h.l⟩
/-- a list display, frozen -/
def dLst (d : DTA) : DTE := fun E M Q => d E M fun xs E1 M1 => match Nat.ble xs.length 1000 with
  | true => Q (.lst xs) E1 M1
  | false => False
theorem e_lst {es : List Expr} {t : TA} {d : DTA} {pos : Pos} (hh : AA X es t d) : EE X (.List es pos) (tLst t) (dLst d) := by
  refine ⟨pe_lst hh.p, ?_⟩
  intro F σ H E M Q P A h k
  refine hh.l F σ H E M _ _ A h fun F1 H1 E1 M1 xs vs s1 A1 r1 h1 => ?_
  split at h1
  · rename_i hb
    refine ⟨line_of (by rw [← r1.length]; exact Nat.le_of_ble_eq_true hb), fun p hp => ?_⟩
    obtain ⟨s2, a2⟩ := A1.m.froz (o := .lst vs) hp
    exact k _ _ E1 M1 (.lst xs) (.ref p) (s1.trans s2) ⟨a2, A1.e.mono s2.grow⟩ (Rep.lst_iff.mpr ⟨p, vs, rfl, upd_same, r1.mono s2.grow⟩) h1
  · exact h1.elim
/-- a list display, a cell -/
def dLstC (d : DTA) : DTE := fun E M Q => d E M fun xs E1 M1 => match Nat.ble xs.length 1000 with
  | true => ∀ p, M1 p = none → Q (.v (.ref p)) E1 (updM M1 p (.lst xs))
  | false => False
theorem e_lstC {es : List Expr} {t : TA} {d : DTA} {pos : Pos} (hh : AA X es t d) : EE X (.List es pos) (tLst t) (dLstC d) := by
  refine ⟨pe_lst hh.p, ?_⟩
  intro F σ H E M Q P A h k
  refine hh.l F σ H E M _ _ A h fun F1 H1 E1 M1 xs vs s1 A1 r1 h1 => ?_
  split at h1
  · rename_i hb
    refine ⟨line_of (by rw [← r1.length]; exact Nat.le_of_ble_eq_true hb), fun p hp => ?_⟩
    obtain ⟨s2, a2⟩ := A1.m.cell (o := .lst vs) (c := .lst xs) hp ⟨vs, upd_same, r1⟩
    exact k _ _ E1 _ (.v (.ref p)) (.ref p) (s1.trans s2) ⟨a2, A1.e⟩ Rep.of_v (h1 p (A1.m.free hp).2)
  · exact h1.elim
/-- {}, a cell -/
def dDctC : DTE := fun E M Q => ∀ p, M p = none → Q (.v (.ref p)) E (updM M p (.dct []))
theorem e_dctC {pos : Pos} : EE X (.Dict [] [] pos) tDNewK dDctC := by
  refine ⟨pe_dnewK, ?_⟩
  intro F σ H E M Q P A h k p hp
  obtain ⟨s2, a2⟩ := A.m.cell (o := .dK []) (c := .dct []) hp ⟨[], upd_same, .nil⟩
  exact k _ _ E _ (.v (.ref p)) (.ref p) s2 ⟨a2, A.e⟩ Rep.of_v (h p (A.m.free hp).2)

/-! ### built-ins -/
def dCB (dr : DRL) (d : DTA) : DTE := fun E M Q => d E M fun xs E1 M1 => dr xs M1 fun z M2 => Q z E1 M2
theorem lift_cb {K : PySem.W.Frag} {r : List V → Hp → VK → Prop} {dr : DRL} {t : TA} {d : DTA} (hr : LiftRL K r dr) (l : LiftA K t d) : LiftE K (tCB r t) (dCB dr d) := by
  intro F σ H E M Q P A h k
  refine l F σ H E M _ _ A h fun F1 H1 E1 M1 xs vs s1 A1 r1 h1 => ?_
  refine hr F1 H1 M1 xs vs _ _ A1.m r1 h1 fun F2 H2 M2 z v s2 a2 r2 h2 => ?_
  exact k F2 H2 E1 M2 z v (s1.trans s2) ⟨a2, A1.e.mono s2.grow⟩ r2 h2
/-- a built-in function by values -/
structure CB (X : Cx) (f : Value) (r : List V → Hp → VK → Prop) (dr : DRL) : Prop where
  p : CallR X f r
  l : LiftRL X.K r dr
theorem e_callB {x : Str} {p pos : Pos} {e : Expr} {es : List Expr} {t : TA} {d : DTA} {id : String} {r : List V → Hp → VK → Prop} {dr : DRL} (hc : CB X (.builtin id) r dr) (hm : X.mg x = none) (ha : AA X (e :: es) t d) (hg : Gl X x := by rfl) (hv : bootBuiltins x = some (.builtin id) := by decide +kernel) (hn : x ≠ "__name__" := by decide) (hdb : (x == ("__debug__" : Str)) = false := by decide)
    (he : starEach (e :: es) X.env = (false, eval e X.env) :: starEach es X.env := by rfl) (hpl : (backTo pos (starEach es X.env)).any (·.1) = false := by rfl) : EE X (.Call (.Name x p) (e :: es) [] pos) (tCB r t) (dCB dr d) := ⟨pe_callB hc.p hg hm hv ha.p hn hdb he hpl, lift_cb hc.l ha.l⟩
theorem e_callTy {x : Str} {p pos : Pos} {e : Expr} {es : List Expr} {t : TA} {d : DTA} {T : String} {r : List V → Hp → VK → Prop} {dr : DRL} (hc : CB X (.type T) r dr) (hm : X.mg x = none) (ha : AA X (e :: es) t d) (hg : Gl X x := by rfl) (hv : bootBuiltins x = some (.type T) := by decide +kernel) (hn : x ≠ "__name__" := by decide) (hdb : (x == ("__debug__" : Str)) = false := by decide)
    (he : starEach (e :: es) X.env = (false, eval e X.env) :: starEach es X.env := by rfl) (hpl : (backTo pos (starEach es X.env)).any (·.1) = false := by rfl) : EE X (.Call (.Name x p) (e :: es) [] pos) (tCB r t) (dCB dr d) := ⟨pe_callTy hc.p hg hm hv ha.p hn hdb he hpl, lift_cb hc.l ha.l⟩
theorem RepL.one {K : PySem.W.Frag} {F : Hp} {d : D} {xs : List V} (h : RepL K F [d] xs) : ∃ x, xs = [x] ∧ Rep K F d x := by
  obtain ⟨x, r, rfl, q, t⟩ := RepL.cons_iff.mp h
  rw [RepL.nil_iff.mp t]
  exact ⟨x, rfl, q⟩
theorem RepL.two {K : PySem.W.Frag} {F : Hp} {d e : D} {xs : List V} (h : RepL K F [d, e] xs) : ∃ x y, xs = [x, y] ∧ Rep K F d x ∧ Rep K F e y := by
  obtain ⟨x, r, rfl, q, t⟩ := RepL.cons_iff.mp h
  obtain ⟨y, rfl, q2⟩ := t.one
  exact ⟨x, y, rfl, q, q2⟩
def dAbs : DRL := fun xs M Q => match xs with
  | [.v (.int i)] => Q (.v (.int (if i < 0 then -i else i))) M
  | _ => False
theorem c_abs : CB X (.builtin "abs") (fun xs H Q => ∃ i, xs = [.int i] ∧ Q (.int (if i < 0 then -i else i)) H) dAbs := by
  refine ⟨call_abs, ?_⟩
  intro F H M ds xs Q P A r h k
  unfold dAbs at h
  split at h
  · obtain ⟨x, rfl, q⟩ := r.one
    rw [Rep.v_eq q]
    exact ⟨_, rfl, k F H M _ _ Step.refl A Rep.of_v h⟩
  · exact h.elim
def dMax2 : DRL := fun xs M Q => match xs with
  | [.v (.int i), .v (.int j)] => Q (.v (.int (max i j))) M
  | _ => False
def dMin2 : DRL := fun xs M Q => match xs with
  | [.v (.int i), .v (.int j)] => Q (.v (.int (min i j))) M
  | _ => False
theorem c_max2 (hc : X.calm = true) : CB X (.builtin "max") (fun xs H Q => ∃ i j, xs = [.int i, .int j] ∧ Q (.int (if j > i then j else i)) H) dMax2 := by
  refine ⟨call_max2 hc, ?_⟩
  intro F H M ds xs Q P A r h k
  unfold dMax2 at h
  split at h
  · rename_i i j
    obtain ⟨x, y, rfl, q1, q2⟩ := r.two
    rw [Rep.v_eq q1, Rep.v_eq q2]
    refine ⟨_, _, rfl, k F H M _ _ Step.refl A (Rep.v_iff.mpr ?_) h⟩
    congr 1
    split <;> omega
  · exact h.elim
theorem c_min2 (hc : X.calm = true) : CB X (.builtin "min") (fun xs H Q => ∃ i j, xs = [.int i, .int j] ∧ Q (.int (if j < i then j else i)) H) dMin2 := by
  refine ⟨call_min2 hc, ?_⟩
  intro F H M ds xs Q P A r h k
  unfold dMin2 at h
  split at h
  · rename_i i j
    obtain ⟨x, y, rfl, q1, q2⟩ := r.two
    rw [Rep.v_eq q1, Rep.v_eq q2]
    refine ⟨_, _, rfl, k F H M _ _ Step.refl A (Rep.v_iff.mpr ?_) h⟩
    congr 1
    split <;> omega
  · exact h.elim
/-! ### what is read as a row -/
/-- a list's items: frozen, only read, or a cell -/
def lstOf (M : Mem) : D → Option (List D)
  | .lst xs => some xs
  | .ro xs => some xs
  | .v (.ref a) => match M a with
    | some (.lst xs) => some xs
    | _ => none
  | _ => none
theorem lstOf_cell {M : Mem} {a : Addr} {zs : List D} (h : M a = some (.lst zs)) : lstOf M (.v (.ref a)) = some zs := by
  show (match M a with
    | some (.lst xs) => some xs
    | _ => none) = some zs
  rw [h]
theorem lstOf_at {K : PySem.W.Frag} {F H : Hp} {M : Mem} {d : D} {x : V} {ds : List D} (A : MAbs K F H M) (r : Rep K F d x) (h : lstOf M d = some ds) : ∃ a xs, x = .ref a ∧ SqL K H a xs ∧ RepL K F ds xs := by
  cases d with
  | v y =>
    cases y with
    | ref a =>
      have e := Rep.v_eq r
      subst e
      have h : (match M a with
        | some (.lst xs) => some xs
        | _ => none) = some ds := h
      cases q : M a with
      | none =>
        rw [q] at h
        cases h
      | some c =>
        rw [q] at h
        cases c with
        | lst zs =>
          cases h
          obtain ⟨xs, e, rr⟩ := (A.mem a _ q).2
          exact ⟨a, xs, rfl, SqL.of e, rr⟩
        | _ => cases h
    | _ => cases h
  | lst zs =>
    cases h
    obtain ⟨a, xs, e, f, rr⟩ := Rep.lst_iff.mp r
    exact ⟨a, xs, e, SqL.of (A.same _ _ f), rr⟩
  | ro zs =>
    cases h
    obtain ⟨a, xs, e, f, rr⟩ := Rep.ro_iff.mp r
    exact ⟨a, xs, e, A.lstF f, rr⟩
  | _ => cases h
def dLen : DRL := fun xs M Q => match xs with
  | [.v (.str z)] => z.length ≤ sizeLine ∧ Q (.v (.int (z.length : Nat))) M
  | [.tup zs] => Q (.v (.int (zs.length : Nat))) M
  | [.lst zs] => Q (.v (.int (zs.length : Nat))) M
  | [.ro zs] => Q (.v (.int (zs.length : Nat))) M
  | [.v (.ref a)] => ∃ c, M a = some c ∧ match c with
    | .lst zs => Q (.v (.int (zs.length : Nat))) M
    | .dct kvs => Q (.v (.int (kvs.length : Nat))) M
    | _ => False
  | _ => False
theorem paired_len {α β : Type} {G : α → β → Prop} {l : List α} {m : List β} (h : Paired G l m) : l.length = m.length := Paired.length h
def rLen2 (K : PySem.W.Frag) : List V → Hp → VK → Prop := fun xs H Q => (∃ x n, xs = [x] ∧ LenV K x H n ∧ Q (.int n) H) ∨ (∃ a kvs, xs = [V.ref a] ∧ H a = some (.dK kvs) ∧ Q (.int kvs.length) H)
theorem c_len : CB X (.builtin "len") (rLen2 X.K) dLen := by
  refine ⟨CallR.or call_len call_lenD, ?_⟩
  intro F H M ds xs Q P A r h k
  have seq : ∀ (d : D) (x : V) (zs : List D), Rep X.K F d x → lstOf M d = some zs → Q (.v (.int (zs.length : Nat))) M → ∃ n, LenV X.K x H n ∧ P (.int n) H := fun d x zs r1 l q => by
    obtain ⟨a, ys, rfl, s, rr⟩ := lstOf_at A r1 l
    exact ⟨_, .inl ⟨ys, s, rfl⟩, by rw [← rr.length]; exact k F H M _ _ Step.refl A Rep.of_v q⟩
  unfold dLen at h
  split at h
  · obtain ⟨x, rfl, q⟩ := r.one
    rw [Rep.v_eq q]
    exact .inl ⟨_, _, rfl, ⟨h.1, rfl⟩, k F H M _ _ Step.refl A Rep.of_v h.2⟩
  · obtain ⟨x, rfl, q⟩ := r.one
    obtain ⟨a, ys, rfl, s, rr⟩ := Rep.tup_iff.mp q
    exact .inl ⟨_, _, rfl, .inr ⟨ys, A.tupF s, rfl⟩, by rw [← rr.length]; exact k F H M _ _ Step.refl A Rep.of_v h⟩
  · obtain ⟨x, rfl, q⟩ := r.one
    obtain ⟨n, l, p⟩ := seq _ x _ q rfl h
    exact .inl ⟨x, n, rfl, l, p⟩
  · obtain ⟨x, rfl, q⟩ := r.one
    obtain ⟨n, l, p⟩ := seq _ x _ q rfl h
    exact .inl ⟨x, n, rfl, l, p⟩
  · rename_i a
    obtain ⟨x, rfl, q⟩ := r.one
    obtain ⟨c, hc, h⟩ := h
    cases c with
    | lst zs =>
      obtain ⟨n, l, p⟩ := seq _ x zs q (lstOf_cell hc) h
      exact .inl ⟨x, n, rfl, l, p⟩
    | dct kvs =>
      rw [Rep.v_eq q]
      obtain ⟨ks, e, rr⟩ := (A.mem a _ hc).2
      exact .inr ⟨a, ks, rfl, e, by rw [← paired_len rr]; exact k F H M _ _ Step.refl A Rep.of_v h⟩
    | obj C ns zs => exact h.elim
  · exact h.elim

/-! ### indices -/
def seqAt {α : Type} : List α → Int → Option α
  | xs, .ofNat n => xs[n]?
  | xs, .negSucc n => if n < xs.length then xs[xs.length - (n + 1)]? else none
theorem seqAt_atI {α : Type} (xs : List α) (i : Int) : seqAt xs i = atI xs i := by
  cases i with
  | ofNat n =>
    show xs[n]? = atI xs (n : Int)
    cases e : xs[n]? with
    | some v => exact (atI_nat e).symm
    | none =>
      unfold atI ixN
      have h : xs.length ≤ n := List.getElem?_eq_none_iff.mp e
      rw [if_pos (by omega), if_neg (by omega)]
      rfl
  | negSucc n =>
    have e1 : seqAt xs (Int.negSucc n) = if n < xs.length then xs[xs.length - (n + 1)]? else none := rfl
    rw [e1]
    unfold atI ixN
    rw [if_neg (show ¬ (0 : Int) ≤ Int.negSucc n by omega)]
    by_cases h : n < xs.length
    · rw [if_pos h, if_pos (by omega)]
      show _ = xs[_]?
      congr 1
      omega
    · rw [if_neg h, if_neg (by omega)]
      rfl
/-- xs[i] of a list, a tuple, a text; d[k] of a dict -/
def dIx : DR2 := fun x y M Q => match x, y with
  | .tup ds, .v (.int i) => (match seqAt ds i with
    | some d => Q d M
    | none => False)
  | .v (.str z), .v (.int i) => ∃ c, z.length ≤ sizeLine ∧ seqAt z.cps.toList i = some c ∧ Q (.v (.str ⟨#[c]⟩)) M
  | .lst ds, .v (.int i) => ∃ d, seqAt ds i = some d ∧ Q d M
  | .ro ds, .v (.int i) => ∃ d, seqAt ds i = some d ∧ Q d M
  | .v (.ref a), .v k => ∃ c, M a = some c ∧ match c with
    | .lst ds => ∃ i d, k = .int i ∧ seqAt ds i = some d ∧ Q d M
    | .dct kvs => ∃ (κ : Key) (p : Key × D), k = kV κ ∧ kvs.find? (fun kv => decide (kv.1 = κ)) = some p ∧ Q p.2 M
    | _ => False
  | _, _ => False
theorem find_rep {K : PySem.W.Frag} {F : Hp} {κ : Key} : ∀ {kvs : List (Key × D)} {ks : List (Key × V)}, RepP K F kvs ks →
    match kvs.find? (fun kv => decide (kv.1 = κ)) with
    | some p => ∃ v, valV ks κ = some v ∧ Rep K F p.2 v
    | none => valV ks κ = none
  | [], _, .nil => rfl
  | p :: kvs, _, .cons (b := q) (l₂ := ks) r t => by
    by_cases e : p.1 = κ
    · have e' : q.1 = κ := r.1 ▸ e
      rw [List.find?_cons_of_pos (by simpa using e)]
      exact ⟨q.2, valV_pos e', r.2⟩
    · have e' : ¬ q.1 = κ := r.1 ▸ e
      rw [List.find?_cons_of_neg (by simpa using e), valV_neg e']
      exact find_rep t
theorem find_some {K : PySem.W.Frag} {F : Hp} {κ : Key} {kvs : List (Key × D)} {ks : List (Key × V)} {p : Key × D} (r : RepP K F kvs ks) (h : kvs.find? (fun kv => decide (kv.1 = κ)) = some p) : ∃ v, valV ks κ = some v ∧ Rep K F p.2 v := by
  have := find_rep (κ := κ) r
  rw [h] at this
  exact this
theorem find_none {K : PySem.W.Frag} {F : Hp} {κ : Key} {kvs : List (Key × D)} {ks : List (Key × V)} (r : RepP K F kvs ks) (h : kvs.find? (fun kv => decide (kv.1 = κ)) = none) : valV ks κ = none := by
  have := find_rep (κ := κ) r
  rw [h] at this
  exact this
def rDGet : R2 := fun x y H Q => ∃ a v, x = .ref a ∧ DGet H a y (some v) ∧ Q v H
theorem ix_dict (hu : X.A.units + 1 < cLine) : IxR X rDGet := by
  intro value slice pins s σ H x y v u Q I rx ry h hs
  obtain ⟨a, w, rfl, g, q⟩ := h
  cases rx
  have hT := dict_typeIs I g
  unfold subscriptTail
  refine wpAny_bind ?_
  rw [getitemInPython_of_ne hT.not_modules]
  refine wpAny_bind (wpAny_specialOf hT PySem.F.slot_dict_getitem.lookup ?_)
  have fin : wpAny (model X.prog X.w) X.A (subscripted slice false (.ref a) u) (fun r s₃ => wpAny (model X.prog X.w) X.A (letTemporaryGo value (.ref a) r >>= fun _ => pure r) (EP X pins σ Q) X.xe s₃) X.xe s := by
    rw [hs]
    exact wpAny_operating (d_getItem hu I g ry fun w' s3 I3 rw' => wpAny_bind (wpAny_letTemporaryGo (wpAny_pure ⟨w, H, I3, rw', q⟩)))
  first
    | exact wpAny_pure (wpAny_bind fin)
    | exact wpAny_bind (wpAny_pure (wpAny_bind fin))
    | exact wpAny_bind fin
theorem lift_ix {K : PySem.W.Frag} : LiftR2 K (fun x y H Q => rIx K x y H Q ∨ rDGet x y H Q) dIx := by
  intro F H M d e x y Q P A r1 r2 h k
  have lst : ∀ (ds : List D) (i : Int) (b : D) (a : Addr) (xs : List V), SqL K H a xs → RepL K F ds xs → seqAt ds i = some b → Q b M → rIx K (.ref a) (.int i) H P := fun ds i b a xs s rr e q => by
    rw [seqAt_atI] at e
    obtain ⟨j, h1, h2, h3, h4, h5⟩ := atI_get e
    obtain ⟨v, e1, e2⟩ := rr.get h2
    refine .inl ⟨a, xs, i, v, rfl, rfl, s, ?_, k F H M _ _ Step.refl A e2 q⟩
    unfold atI at e ⊢
    rw [← rr.length]
    cases z : ixN ds.length i with
    | none => rw [z] at e; cases e
    | some m =>
      rw [z] at e
      show xs[m]? = some v
      have hm : ds[m]? = some b := e
      obtain ⟨w', e3, e4⟩ := rr.get hm
      obtain ⟨q1, q2, q3, q4⟩ := ixN_seq z
      rw [q1] at h1
      cases h1
      exact e1
  unfold dIx at h
  split at h
  · rename_i ds i
    rw [Rep.v_eq r2]
    obtain ⟨a, xs, rfl, s, rr⟩ := Rep.tup_iff.mp r1
    cases e : seqAt ds i with
    | none => rw [e] at h; exact h.elim
    | some b =>
      rw [e] at h
      rw [seqAt_atI] at e
      obtain ⟨j, h1, h2, h3, h4, h5⟩ := atI_get e
      obtain ⟨v, e1, e2⟩ := rr.get h2
      refine .inl (.inr (.inl ⟨a, xs, i, v, rfl, rfl, A.tupF s, ?_, k F H M _ _ Step.refl A e2 h⟩))
      unfold atI at e ⊢
      rw [← rr.length]
      cases z : ixN ds.length i with
      | none => rw [z] at e; cases e
      | some m =>
        rw [z] at e
        show xs[m]? = some v
        obtain ⟨q1, q2, q3, q4⟩ := ixN_seq z
        rw [q1] at h1
        cases h1
        exact e1
  · rw [Rep.v_eq r1, Rep.v_eq r2]
    obtain ⟨c, hz, e, q⟩ := h
    rw [seqAt_atI] at e
    exact .inl (.inr (.inr ⟨_, _, c, rfl, rfl, hz, e, k F H M _ _ Step.refl A Rep.of_v q⟩))
  · rw [Rep.v_eq r2]
    obtain ⟨b, e, q⟩ := h
    obtain ⟨a, xs, rfl, s, rr⟩ := Rep.lst_iff.mp r1
    exact .inl (lst _ _ b a xs (SqL.of (A.same _ _ s)) rr e q)
  · rw [Rep.v_eq r2]
    obtain ⟨b, e, q⟩ := h
    obtain ⟨a, xs, rfl, s, rr⟩ := Rep.ro_iff.mp r1
    exact .inl (lst _ _ b a xs (A.lstF s) rr e q)
  · rw [Rep.v_eq r1, Rep.v_eq r2]
    obtain ⟨c, hc, h⟩ := h
    cases c with
    | lst ds =>
      obtain ⟨i, b, rfl, e, q⟩ := h
      obtain ⟨xs, s, rr⟩ := (A.mem _ _ hc).2
      exact .inl (lst _ _ b _ xs (SqL.of s) rr e q)
    | dct kvs =>
      obtain ⟨κ, p, rfl, e, q⟩ := h
      obtain ⟨ks, s, rr⟩ := (A.mem _ _ hc).2
      obtain ⟨v, e1, e2⟩ := find_some rr e
      have g := DGet.k (k := κ) s
      rw [e1] at g
      exact .inr ⟨_, v, rfl, g, k F H M _ _ Step.refl A e2 q⟩
    | obj C ns ds => exact h.elim
  · exact h.elim
def rIxD (K : PySem.W.Frag) : R2 := fun x y H Q => rIx K x y H Q ∨ rDGet x y H Q
theorem e_ix {a b : Expr} {ta tb : TE} {da db : DTE} {pos : Pos} (hu : X.A.units + 1 < cLine) (ha : EE X a ta da) (hb : EE X b tb db) (hs : PlainIx b := by exact fun _ _ => rfl) : EE X (.Subscript a b pos) (tOp (rIxD X.K) ta tb) (dOp dIx da db) :=
  ⟨pe_ix (r := rIxD X.K) (IxR.or ix_seq (ix_dict hu)) ha.p hb.p hs, lift_op ha.l hb.l lift_ix⟩
end
end DS

set_option Elab.async false
set_option linter.all false
set_option maxRecDepth 100000
set_option maxHeartbeats 2000000
/-! DS4: targets, what is walked, loops, comprehensions. -/
namespace DS
open PySem PySem.Spec PyProof.Rows L2

/-! ### targets: names alone -/
abbrev DTG := D → DEnv → (DEnv → Prop) → Prop
abbrev DTGs := List D → DEnv → (DEnv → Prop) → Prop
section
variable (K : PySem.W.Frag)
def LiftG (g : TG) (dg : DTG) (sl : List Nat) : Prop := ∀ (F : Hp) (σ : L2.St) (H : Hp) (E : DEnv) (M : Mem) (d : D) (v : V) (Q : DEnv → Prop) (P : L2.St → Hp → Prop), Abs K F σ H E M → Rep K F d v → dg d E Q →
  (∀ σ' E', Abs K F σ' H E' M → (∀ j, j ∉ sl → σ'[j]? = σ[j]?) → σ'.length = σ.length → Q E' → P σ' H) → g v σ H P
def LiftGs (g : TGs) (dg : DTGs) (sl : List Nat) : Prop := ∀ (F : Hp) (σ : L2.St) (H : Hp) (E : DEnv) (M : Mem) (ds : List D) (vs : List V) (Q : DEnv → Prop) (P : L2.St → Hp → Prop), Abs K F σ H E M → RepL K F ds vs → dg ds E Q →
  (∀ σ' E', Abs K F σ' H E' M → (∀ j, j ∉ sl → σ'[j]? = σ[j]?) → σ'.length = σ.length → Q E' → P σ' H) → g vs σ H P
end
structure GG (X : Cx) (tg : Expr) (g : TG) (dg : DTG) (sl : List Nat) : Prop where
  p : PG X tg g
  l : LiftG X.K g dg sl
structure GGs (X : Cx) (tg : List Expr) (g : TGs) (dg : DTGs) (sl : List Nat) : Prop where
  p : PGs X tg g
  l : LiftGs X.K g dg sl
section
variable {X : Cx}
def dgName (i : Nat) : DTG := fun d E Q => Q (E.set i (some d))
theorem g_name {i : Nat} {x : Str} {pos : Pos} (hN : X.N.Nodup) (hi : X.N[i]? = some x := by rfl) (hx : Loc X.env.scope x := by first | exact Or.inl rfl | exact Or.inr rfl) (hf : X.fn x = true ∨ X.env.scope.names.lookup x = some .local := by first | exact .inl rfl | exact .inr rfl | assumption) : GG X (.Name x pos) (gName i) (dgName i) [i] :=
  ⟨pg_name hN hi hx hf, fun F σ H E M d v Q P A r h k => k _ _ ⟨A.m, A.e.set i r⟩ (fun j hj => List.getElem?_set_ne (fun z => hj (by rw [z]; exact List.mem_singleton.mpr rfl))) (List.length_set ..) h⟩
def dgNil : DTGs := fun ds E Q => match ds with
  | [] => Q E
  | _ => False
def dgCons (t : DTG) (u : DTGs) : DTGs := fun ds E Q => match ds with
  | d :: r => t d E fun E1 => u r E1 Q
  | [] => False
theorem g_nil : GGs X [] gNil dgNil [] := ⟨pgs_nil, fun F σ H E M ds vs Q P A r h k => by
  cases ds with
  | nil => exact ⟨RepL.nil_iff.mp r, k σ E A (fun _ _ => rfl) rfl h⟩
  | cons => exact h.elim⟩
theorem g_cons {e : Expr} {es : List Expr} {t : TG} {u : TGs} {dt : DTG} {du : DTGs} {sl sm : List Nat} (h1 : GG X e t dt sl) (h2 : GGs X es u du sm) (hs : (assignEach (e :: es) X.env).map (·.2) = assign e X.env :: (assignEach es X.env).map (·.2) := by rfl) : GGs X (e :: es) (gCons t u) (dgCons dt du) (sl ++ sm) :=
  ⟨pgs_cons h1.p h2.p hs, fun F σ H E M ds vs Q P A r h k => by
    cases ds with
    | nil => exact h.elim
    | cons d ds =>
      obtain ⟨v, rr, rfl, r1, r2⟩ := RepL.cons_iff.mp r
      refine ⟨v, rr, rfl, h1.l F σ H E M d v _ _ A r1 h fun σ1 E1 A1 k1 l1 q1 => ?_⟩
      refine h2.l F σ1 H E1 M ds rr _ _ A1 r2 q1 fun σ2 E2 A2 k2 l2 q2 => ?_
      exact k σ2 E2 A2 (fun j hj => (k2 j fun z => hj (List.mem_append_right _ z)).trans (k1 j fun z => hj (List.mem_append_left _ z))) (l2.trans l1) q2⟩
def dgTup (t : DTGs) : DTG := fun d E Q => match d with
  | .tup ds => t ds E Q
  | _ => False
theorem lift_gtup {K : PySem.W.Frag} {t : TGs} {dt : DTGs} {sl : List Nat} {n : Nat} (l : LiftGs K t dt sl) (hn : ∀ ds E Q, dt ds E Q → ds.length = n) : LiftG K (gTup K n t) (dgTup dt) sl := fun F σ H E M d v Q P A r h k => by
  cases d with
  | tup ds =>
    obtain ⟨a, xs, rfl, s, rr⟩ := Rep.tup_iff.mp r
    exact ⟨a, xs, rfl, A.m.tupF s, by rw [← rr.length]; exact hn _ _ _ h, l F σ H E M ds xs Q P A rr h k⟩
  | _ => exact False.elim h
/-- how many items a target list takes -/
structure NGs (dt : DTGs) (n : Nat) : Prop where
  h : ∀ ds E Q, dt ds E Q → ds.length = n
theorem ng_nil : NGs dgNil 0 := ⟨fun ds E Q h => by
  cases ds with
  | nil => rfl
  | cons => exact h.elim⟩
structure MonoG (t : DTG) : Prop where
  h : ∀ d E Q Q', (∀ E', Q E' → Q' E') → t d E Q → t d E Q'
theorem mg_name {i : Nat} : MonoG (dgName i) := ⟨fun d E Q Q' h q => h _ q⟩
structure MonoGs (t : DTGs) : Prop where
  h : ∀ d E Q Q', (∀ E', Q E' → Q' E') → t d E Q → t d E Q'
theorem mgs_nil : MonoGs dgNil := ⟨fun ds E Q Q' h q => by
  cases ds with
  | nil => exact h _ q
  | cons => exact q.elim⟩
theorem mgs_cons {t : DTG} {u : DTGs} (h1 : MonoG t) (h2 : MonoGs u) : MonoGs (dgCons t u) := ⟨fun ds E Q Q' h q => by
  cases ds with
  | nil => exact q.elim
  | cons d r => exact h1.h d E _ _ (fun E1 q1 => h2.h r E1 _ _ h q1) q⟩
theorem mg_tup {t : DTGs} (h1 : MonoGs t) : MonoG (dgTup t) := ⟨fun d E Q Q' h q => by
  cases d with
  | tup ds => exact h1.h ds E Q Q' h q
  | _ => exact False.elim q⟩
end
/-- a target is reached for some state -/
def Hits (t : DTG) : Prop := ∀ d E Q, t d E Q → ∃ E', Q E'
def HitsS (t : DTGs) : Prop := ∀ ds E Q, t ds E Q → ∃ E', Q E'
theorem ng_cons {t : DTG} {u : DTGs} {n : Nat} (h : NGs u n) (ht : Hits t) : NGs (dgCons t u) (n + 1) := ⟨fun ds E Q q => by
  cases ds with
  | nil => exact q.elim
  | cons d r =>
    obtain ⟨E', q'⟩ := ht d E _ q
    rw [List.length_cons, h.h r E' Q q']⟩
theorem hits_name {i : Nat} : Hits (dgName i) := fun d E Q q => ⟨_, q⟩
theorem hits_nil : HitsS dgNil := fun ds E Q q => by
  cases ds with
  | nil => exact ⟨_, q⟩
  | cons => exact q.elim
theorem hits_cons {t : DTG} {u : DTGs} (ht : Hits t) (hu : HitsS u) : HitsS (dgCons t u) := fun ds E Q q => by
  cases ds with
  | nil => exact q.elim
  | cons d r =>
    obtain ⟨E1, q1⟩ := ht d E _ q
    exact hu r E1 Q q1
theorem hits_tup {t : DTGs} (ht : HitsS t) : Hits (dgTup t) := fun d E Q q => by
  cases d with
  | tup ds => exact ht ds E Q q
  | _ => exact False.elim q
section
variable {X : Cx}
theorem g_tup {es : List Expr} {k : Nat} {t : TGs} {dt : DTGs} {sl : List Nat} {n : Nat} {pos : Pos} (hc : X.calm = true) (h : GGs X es t dt sl) (hn' : NGs dt n) (hn : (assignEach es X.env).length = n := by rfl) (hst : (assignEach es X.env).findIdx? (·.1) = none := by rfl) : GG X (.Tuple es k pos) (gTup X.K n t) (dgTup dt) sl :=
  ⟨pg_tup hc h.p hn hst, lift_gtup h.l hn'.h⟩
/-- target = value, the target names -/
def dAsg (d : DTE) (g : DTG) : DTS := fun A E M => d E M fun r E1 M1 => g r E1 fun E2 => A.nx E2 M1
theorem s_asg {tg e : Expr} {t : TE} {d : DTE} {g : TG} {dg : DTG} {sl : List Nat} {pos : Pos} (he : EE X e t d) (hg : GG X tg g dg sl) (hs : swapsWithSole [tg] e pos.line X.env = pure false := by rfl) (hw : swappedStores [tg] e X.env = pure none := by rfl)
    (h1 : (assignEach [tg] X.env).map (·.2) = [assign tg X.env] := by rfl) : SS X (.Assign [tg] e pos) (tAsg t g) (dAsg d dg) := by
  refine ⟨ps_asg he.p hg.p hs hw h1, fun F σ H E M A P a h k kr => ?_⟩
  refine he.l F σ H E M _ _ a h fun F1 H1 E1 M1 r v s1 a1 r1 h1 => ?_
  exact hg.l F1 σ H1 E1 M1 r v _ _ a1 r1 h1 fun σ2 E2 a2 _ _ q => (k F1 σ2 H1 E2 M1 s1 a2).1 q

/-! ### what is walked -/
abbrev DTI := DEnv → Mem → (List D → DEnv → Mem → Prop) → Prop
/-- what stands beside the frozen part and the cells, and stays -/
def Hid (hid : List (Addr × HO)) (F H : Hp) (M : Mem) : Prop := ∀ p ∈ hid, H p.1 = some p.2 ∧ F p.1 = none ∧ M p.1 = none
theorem Hid.step {hid : List (Addr × HO)} {F H F' H' : Hp} {M M' : Mem} (h : Hid hid F H M) (s : Step F H M F' H' M') : Hid hid F' H' M' := fun p hp => by
  obtain ⟨a, b, c⟩ := h p hp
  exact s.frame p.1 p.2 a b c
/-- the walk yields these, one behind another, whatever else is done in between -/
def Walks (K : PySem.W.Frag) (J : It) (ds : List D) (Fs : Hp) (hid : List (Addr × HO)) : Prop := ∀ (F H : Hp) (M : Mem), Same Fs F → MAbs K F H M → Hid hid F H M →
  (∀ i, i = ds.length → J.stop i H) ∧ ∀ (i : Nat) (d : D), ds[i]? = some d → J.go i H ∧ ∀ x H', J.yld i H x H' → ∃ F', Step F H M F' H' M ∧ MAbs K F' H' M ∧ Rep K F' d x
def LiftI (K : PySem.W.Frag) (wi : TI) (di : DTI) : Prop := ∀ (F : Hp) (σ : L2.St) (H : Hp) (E : DEnv) (M : Mem) (Q : List D → DEnv → Mem → Prop) (R : It → Hp → Prop), Abs K F σ H E M → di E M Q →
  (∀ F' H' E' M' ds J hid, Step F H M F' H' M' → Abs K F' σ H' E' M' → Walks K J ds F' hid → Hid hid F' H' M' → Q ds E' M' → R J H') → wi σ H R
theorem hid_nil {F H : Hp} {M : Mem} : Hid [] F H M := fun p hp => nomatch hp
structure II (X : Cx) (tg iter : Expr) (wi : TI) (di : DTI) : Prop where
  p : PI X tg iter wi
  l : LiftI X.K wi di
theorem walks_list {K : PySem.W.Frag} {F : Hp} {a : Addr} {xs : List V} {ds : List D} (s : SqL K F a xs) (rr : RepL K F ds xs) : Walks K (Itl K a) ds F [] := fun F1 H1 M1 e m _ => by
  have s1 : SqL K H1 a xs := m.lstF (SqL.mono e s)
  refine ⟨fun i hi => ⟨xs, s1, by rw [hi, rr.length]; exact Nat.le_refl _⟩, fun i d hd => ?_⟩
  obtain ⟨x, e1, e2⟩ := rr.get hd
  refine ⟨⟨xs, x, s1, e1⟩, fun y H' ⟨eh, hy⟩ => ?_⟩
  subst eh
  have := hy xs s1
  rw [e1] at this
  cases this
  exact ⟨F1, Step.refl, m, e2.mono e⟩
theorem walks_tup {K : PySem.W.Frag} {F : Hp} {a : Addr} {xs : List V} {ds : List D} (s : SqT K F a xs) (rr : RepL K F ds xs) : Walks K (Itt K a) ds F [] := fun F1 H1 M1 e m _ => by
  have s1 : SqT K H1 a xs := m.tupF (SqT.mono e s)
  refine ⟨fun i hi => ⟨xs, s1, by rw [hi, rr.length]; exact Nat.le_refl _⟩, fun i d hd => ?_⟩
  obtain ⟨x, e1, e2⟩ := rr.get hd
  refine ⟨⟨xs, x, s1, e1⟩, fun y H' ⟨eh, hy⟩ => ?_⟩
  subst eh
  have := hy xs s1
  rw [e1] at this
  cases this
  exact ⟨F1, Step.refl, m, e2.mono e⟩
/-- a frozen list -/
def diL (d : DTE) : DTI := fun E M Q => d E M fun x E1 M1 => match x with
  | .lst ds => Q ds E1 M1
  | .ro ds => Q ds E1 M1
  | _ => False
theorem i_list {tg e : Expr} {t : TE} {d : DTE} (h : EE X e t d) : II X tg e (iList X.K t) (diL d) := by
  refine ⟨pi_list h.p, fun F σ H E M Q R A hd k => ?_⟩
  refine h.l F σ H E M _ _ A hd fun F1 H1 E1 M1 x v s1 A1 r1 h1 => ?_
  cases x with
  | lst ds =>
    obtain ⟨a, xs, rfl, s, rr⟩ := Rep.lst_iff.mp r1
    exact ⟨a, rfl, ⟨xs, SqL.of (A1.m.same _ _ s)⟩, k F1 H1 E1 M1 ds _ [] s1 A1 (walks_list (SqL.of s) rr) hid_nil h1⟩
  | ro ds =>
    obtain ⟨a, xs, rfl, s, rr⟩ := Rep.ro_iff.mp r1
    exact ⟨a, rfl, ⟨xs, A1.m.lstF s⟩, k F1 H1 E1 M1 ds _ [] s1 A1 (walks_list s rr) hid_nil h1⟩
  | _ => exact False.elim h1
/-- a tuple -/
def diT (d : DTE) : DTI := fun E M Q => d E M fun x E1 M1 => match x with
  | .tup ds => Q ds E1 M1
  | _ => False
theorem i_tup {tg e : Expr} {t : TE} {d : DTE} (h : EE X e t d) : II X tg e (iTup X.K t) (diT d) := by
  refine ⟨pi_tup h.p, fun F σ H E M Q R A hd k => ?_⟩
  refine h.l F σ H E M _ _ A hd fun F1 H1 E1 M1 x v s1 A1 r1 h1 => ?_
  cases x with
  | tup ds =>
    obtain ⟨a, xs, rfl, s, rr⟩ := Rep.tup_iff.mp r1
    exact ⟨a, rfl, ⟨xs, A1.m.tupF s⟩, k F1 H1 E1 M1 ds _ [] s1 A1 (walks_tup s rr) hid_nil h1⟩
  | _ => exact False.elim h1
/-- lo, lo + 1, .. below hi -/
def rangeD (lo hi : Int) : List D := (List.range (hi - lo).toNat).map fun (i : Nat) => D.v (.int (lo + (i : Int)))
theorem walks_range {K : PySem.W.Frag} {F : Hp} {lo hi : Int} : Walks K (Itr lo (hi - lo).toNat) (rangeD lo hi) F [] := fun F1 H1 M1 e m _ => by
  have hl : (rangeD lo hi).length = (hi - lo).toNat := by unfold rangeD; rw [List.length_map, List.length_range]
  refine ⟨fun i h => by show (hi - lo).toNat ≤ i; omega, fun i d hd => ?_⟩
  have hi' := (List.getElem?_eq_some_iff.mp hd).1
  refine ⟨by show i < (hi - lo).toNat; omega, fun x H' ⟨eh, ex⟩ => ?_⟩
  subst eh ex
  refine ⟨F1, Step.refl, m, ?_⟩
  unfold rangeD at hd
  rw [List.getElem?_map, List.getElem?_range (by omega)] at hd
  cases hd
  exact Rep.of_v
def SmallI (i : Int) : Prop := -(2 ^ 62) ≤ i ∧ i < 2 ^ 62
def diR1 (d : DTA) : DTI := fun E M Q => d E M fun xs E1 M1 => match xs with
  | [.v (.int n)] => SmallI n ∧ Q (rangeD 0 n) E1 M1
  | _ => False
def diR2 (d : DTA) : DTI := fun E M Q => d E M fun xs E1 M1 => match xs with
  | [.v (.int m), .v (.int n)] => SmallI m ∧ SmallI n ∧ Q (rangeD m n) E1 M1
  | _ => False
theorem i_range1 {tg a : Expr} {t : TA} {d : DTA} {p pos : Pos} (hm : X.mg "range" = none) (ha : AA X [a] t d) (hg : Gl X "range" := by rfl) (hs : starEach [a] X.env = [(false, eval a X.env)] := by rfl) : II X tg (.Call (.Name "range" p) [a] [] pos) (iRng1 t) (diR1 d) := by
  refine ⟨pi_range1 hg hm ha.p hs, fun F σ H E M Q R A hd k => ?_⟩
  refine ha.l F σ H E M _ _ A hd fun F1 H1 E1 M1 xs vs s1 A1 r1 h1 => ?_
  split at h1
  · rename_i n
    obtain ⟨x, rfl, q⟩ := r1.one
    rw [Rep.v_eq q]
    refine ⟨n, rfl, h1.1.1, h1.1.2, k F1 H1 E1 M1 _ _ [] s1 A1 ?_ hid_nil h1.2⟩
    have w := walks_range (K := X.K) (F := F1) (lo := 0) (hi := n)
    rw [Int.sub_zero] at w
    exact w
  · exact h1.elim
theorem i_range2 {tg a b : Expr} {t : TA} {d : DTA} {p pos : Pos} (hm : X.mg "range" = none) (ha : AA X [a, b] t d) (hg : Gl X "range" := by rfl) (hs : starEach [a, b] X.env = [(false, eval a X.env), (false, eval b X.env)] := by rfl) (hs2 : starEach [b] X.env = [(false, eval b X.env)] := by rfl) : II X tg (.Call (.Name "range" p) [a, b] [] pos) (iRng2 t) (diR2 d) := by
  refine ⟨pi_range2 hg hm ha.p hs hs2, fun F σ H E M Q R A hd k => ?_⟩
  refine ha.l F σ H E M _ _ A hd fun F1 H1 E1 M1 xs vs s1 A1 r1 h1 => ?_
  split at h1
  · rename_i m n
    obtain ⟨x, y, rfl, q1, q2⟩ := r1.two
    rw [Rep.v_eq q1, Rep.v_eq q2]
    exact ⟨m, n, rfl, ⟨h1.1.1, h1.1.2, h1.2.1.1, h1.2.1.2⟩, k F1 H1 E1 M1 _ _ [] s1 A1 walks_range hid_nil h1.2.2⟩
  · exact h1.elim
/-- a text's signs -/
def signsD (z : Str) : List D := z.cps.toList.map fun c => D.v (.str ⟨#[c]⟩)
def diS (d : DTE) : DTI := fun E M Q => d E M fun x E1 M1 => match x with
  | .v (.str z) => Q (signsD z) E1 M1
  | _ => False
theorem i_str {tg e : Expr} {t : TE} {d : DTE} (h : EE X e t d) : II X tg e (iStr t) (diS d) := by
  refine ⟨pi_str h.p, fun F σ H E M Q R A hd k => ?_⟩
  refine h.l F σ H E M _ _ A hd fun F1 H1 E1 M1 x v s1 A1 r1 h1 => ?_
  split at h1
  · rename_i z
    refine ⟨z, Rep.v_eq r1, k F1 H1 E1 M1 _ _ [] s1 A1 (fun F2 H2 M2 e m _ => ?_) hid_nil h1⟩
    have hl : (signsD z).length = z.cps.size := by unfold signsD; rw [List.length_map, Array.length_toList]
    refine ⟨fun i h => by show z.cps.size ≤ i; omega, fun i d hd => ?_⟩
    have hi' := (List.getElem?_eq_some_iff.mp hd).1
    refine ⟨by show i < z.cps.size; omega, fun x H' ⟨eh, c, ec, ex⟩ => ?_⟩
    subst eh ex
    refine ⟨F2, Step.refl, m, ?_⟩
    unfold signsD at hd
    rw [List.getElem?_map, Array.getElem?_toList, ec] at hd
    cases hd
    exact Rep.of_v
  · exact h1.elim

/-! ### for -/
def dLoop (g : DTG) (b : DTS) : List D → DTS
  | [], A, E, M => A.nx E M
  | d :: ds, A, E, M => g d E fun E1 => b { A with nx := dLoop g b ds A, ct := dLoop g b ds A, bk := A.nx } E1 M
def dFor (di : DTI) (g : DTG) (b : DTS) : DTS := fun A E M => di E M fun ds E1 M1 => dLoop g b ds A E1 M1
/-- from a walk on: the loop's own reading -/
theorem loop_core {K : PySem.W.Frag} {g : TG} {dg : DTG} {sl : List Nat} {tb : TS} {db : DTS} (lg : LiftG K g dg sl) (lb : LiftS K tb db) {F1 : Hp} {σ : L2.St} {H1 : Hp} {E1 : DEnv} {M1 : Mem} {A : DEnds} {P : Ends} {ds : List D} {J : It} {hid : List (Addr × HO)} (a1 : Abs K F1 σ H1 E1 M1)
    (w : Walks K J ds F1 hid) (hh : Hid hid F1 H1 M1) (h1 : dLoop dg db ds A E1 M1)
    (k : ∀ F' σ' H' E' M', Step F1 H1 M1 F' H' M' → Abs K F' σ' H' E' M' → (A.nx E' M' → P.nx σ' H') ∧ (A.bk E' M' → P.bk σ' H') ∧ (A.ct E' M' → P.ct σ' H'))
    (kr : ∀ F' H' M' r v, Step F1 H1 M1 F' H' M' → MAbs K F' H' M' → Rep K F' r v → A.rt r M' → P.rt v H') :
    ∃ W : Nat → Nat → L2.St → Hp → Prop, (∃ m, W 0 m σ H1) ∧ ∀ i m σ H, W i m σ H →
      (J.stop i H ∧ P.nx σ H) ∨ (J.go i H ∧ ∃ N : L2.St → Hp → Prop, (∀ σ' H', N σ' H' → ∃ m', m' < m ∧ W (i + 1) m' σ' H') ∧ ∀ x H', J.yld i H x H' → g x σ H' fun σ2 H2 => tb { P with nx := N, ct := N, bk := P.nx } σ2 H2) := by
  refine ⟨fun i m σ' H' => m = ds.length - i ∧ i ≤ ds.length ∧ ∃ F' E' M', Step F1 H1 M1 F' H' M' ∧ Abs K F' σ' H' E' M' ∧ dLoop dg db (ds.drop i) A E' M', ⟨ds.length, rfl, Nat.zero_le _, F1, E1, M1, Step.refl, a1, h1⟩, ?_⟩
  rintro i m σ2 H2 ⟨rfl, hi, F2, E2, M2, s2, a2, h2⟩
  obtain ⟨w1, w2⟩ := w F2 H2 M2 s2.grow a2.m (hh.step s2)
  by_cases hlt : i < ds.length
  · have hd : ds[i]? = some ds[i] := List.getElem?_eq_getElem hlt
    have hdrop : ds.drop i = ds[i] :: ds.drop (i + 1) := List.drop_eq_getElem_cons hlt
    rw [hdrop] at h2
    obtain ⟨go, yl⟩ := w2 i _ hd
    refine .inr ⟨go, fun σ' H' => ∃ F' E' M', Step F1 H1 M1 F' H' M' ∧ Abs K F' σ' H' E' M' ∧ dLoop dg db (ds.drop (i + 1)) A E' M', fun σ' H' q => ⟨ds.length - (i + 1), by omega, rfl, hlt, q⟩, fun x H3 y => ?_⟩
    obtain ⟨F3, s3, m3, r3⟩ := yl x H3 y
    refine lg F3 σ2 H3 E2 M2 _ x _ _ ⟨m3, a2.e.mono s3.grow⟩ r3 h2 fun σ4 E4 a4 _ _ h4 => ?_
    refine lb F3 σ4 H3 E4 M2 _ _ a4 h4 (fun F5 σ5 H5 E5 M5 s5 a5 => ⟨fun q => ?_, fun q => ?_, fun q => ?_⟩) fun F5 H5 M5 r v s5 a5 r5 q => kr F5 H5 M5 r v ((s2.trans s3).trans s5) a5 r5 q
    · exact ⟨F5, E5, M5, (s2.trans s3).trans s5, a5, q⟩
    · exact (k F5 σ5 H5 E5 M5 ((s2.trans s3).trans s5) a5).1 q
    · exact ⟨F5, E5, M5, (s2.trans s3).trans s5, a5, q⟩
  · have e : i = ds.length := by omega
    subst e
    rw [List.drop_length] at h2
    exact .inl ⟨w1 _ rfl, (k F2 σ2 H2 E2 M2 s2 a2).1 h2⟩
theorem lift_for {K : PySem.W.Frag} {wi : TI} {di : DTI} {g : TG} {dg : DTG} {sl : List Nat} {tb : TS} {db : DTS} (li : LiftI K wi di) (lg : LiftG K g dg sl) (lb : LiftS K tb db) : LiftS K (tFor wi g tb) (dFor di dg db) := by
  intro F σ H E M A P a h k kr
  refine li F σ H E M _ _ a h fun F1 H1 E1 M1 ds J hid s1 a1 w hh h1 => ?_
  exact loop_core lg lb a1 w hh h1 (fun F' σ' H' E' M' s => k F' σ' H' E' M' (s1.trans s)) fun F' H' M' r v s => kr F' H' M' r v (s1.trans s)
theorem s_for {tg iter : Expr} {body : List Stmt} {wi : TI} {di : DTI} {g : TG} {dg : DTG} {sl : List Nat} {tb : TS} {db : DTS} {pos : Pos} (hp : PassesOwn (model X.prog X.w) X.A X.env X.xe) (hc : X.calm = true) (hi : II X tg iter wi di) (hg : GG X tg g dg sl) (hb : Ss X body tb db)
    (hs : ∀ x, foldedSetIterable iter X.env x = pure x := by intro _; rfl) : SS X (.For tg iter body [] pos) (tFor wi g tb) (dFor di dg db) := ⟨ps_for hp hc hi.p hg.p hb.p hs, lift_for hi.l hg.l hb.l⟩
end
end DS

set_option Elab.async false
set_option linter.all false
set_option maxRecDepth 100000
set_option maxHeartbeats 2000000
/-! DS5: pairs walked (zip, enumerate, reversed, dicts), comprehensions. -/
namespace DS
open PySem PySem.Spec PyProof.Rows L2
section
variable {X : Cx}
/-- a fresh frozen tuple -/
theorem yield_tup {K : PySem.W.Frag} {F H : Hp} {M : Mem} {T : Addr} {vs : List V} {ds : List D} (m : MAbs K F H M) (hT : H T = none) (r : RepL K F ds vs) : ∃ F', Step F H M F' (upd H T (.tup vs)) M ∧ MAbs K F' (upd H T (.tup vs)) M ∧ Rep K F' (.tup ds) (.ref T) := by
  obtain ⟨s, a⟩ := m.froz (o := .tup vs) hT
  exact ⟨_, s, a, Rep.tup_iff.mpr ⟨T, vs, rfl, .inl (.inl upd_same), r.mono s.grow⟩⟩
/-- the items of a frozen list -/
def rowOf : D → Option (List D)
  | .lst ds => some ds
  | .ro ds => some ds
  | _ => none
theorem rowOf_at {K : PySem.W.Frag} {F : Hp} {d : D} {x : V} {ds : List D} (r : Rep K F d x) (h : rowOf d = some ds) : ∃ a xs, x = .ref a ∧ SqL K F a xs ∧ RepL K F ds xs := by
  cases d with
  | lst zs =>
    cases h
    obtain ⟨a, xs, e, f, rr⟩ := Rep.lst_iff.mp r
    exact ⟨a, xs, e, SqL.of f, rr⟩
  | ro zs =>
    cases h
    exact Rep.ro_iff.mp r
  | _ => cases h
/-- enumerate -/
def enumD (ds : List D) : List D := ds.mapIdx fun i d => D.tup [.v (.int (i : Nat)), d]
def diEnum (d : DTA) : DTI := fun E M Q => d E M fun xs E1 M1 => match xs with
  | [x] => match rowOf x with
    | some ds => Q (enumD ds) E1 M1
    | none => False
  | _ => False
theorem i_enum {e : Expr} {t : TA} {d : DTA} {p pos tpos : Pos} {elts : List Expr} {kk : Nat} (hm : X.mg "enumerate" = none) (ha : AA X [e] t d) (hg : Gl X "enumerate" := by rfl) (hs : starEach [e] X.env = [(false, eval e X.env)] := by rfl) :
    II X (.Tuple elts kk tpos) (.Call (.Name "enumerate" p) [e] [] pos) (iEnum X.K t) (diEnum d) := by
  refine ⟨pi_enum hg hm ha.p hs, fun F σ H E M Q R A hd k => ?_⟩
  refine ha.l F σ H E M _ _ A hd fun F1 H1 E1 M1 xs vs s1 A1 r1 h1 => ?_
  split at h1
  · rename_i x
    obtain ⟨v, rfl, q⟩ := r1.one
    split at h1
    · rename_i ds hds
      obtain ⟨a, ys, rfl, s, rr⟩ := rowOf_at q hds
      refine ⟨a, ys, rfl, A1.m.lstF s, k F1 H1 E1 M1 _ _ [] s1 A1 (fun F2 H2 M2 e m _ => ?_) hid_nil h1⟩
      have sH : SqL X.K H2 a ys := m.lstF (SqL.mono e s)
      have hl : (enumD ds).length = ys.length := by unfold enumD; rw [List.length_mapIdx]; exact rr.length
      refine ⟨fun i h => ⟨ys, sH, by omega⟩, fun i d hd => ?_⟩
      unfold enumD at hd
      rw [List.getElem?_mapIdx] at hd
      cases hx : ds[i]? with
      | none => rw [hx] at hd; cases hd
      | some b =>
        rw [hx] at hd
        cases hd
        obtain ⟨y, e1, e2⟩ := rr.get hx
        refine ⟨⟨ys, y, sH, e1⟩, fun v H' ⟨T, z, ev, hT, eh, hz⟩ => ?_⟩
        subst ev eh
        have := hz ys sH
        rw [e1] at this
        cases this
        exact yield_tup m hT (.cons Rep.of_v (.cons (e2.mono e) .nil))
    · exact h1.elim
  · exact h1.elim
/-- zip of two -/
def zipD (ds es : List D) : List D := List.zipWith (fun d e => D.tup [d, e]) ds es
def diZip (d : DTA) : DTI := fun E M Q => d E M fun xs E1 M1 => match xs with
  | [x, y] => match rowOf x, rowOf y with
    | some ds, some es => Q (zipD ds es) E1 M1
    | _, _ => False
  | _ => False
theorem i_zip {e e2 : Expr} {t : TA} {d : DTA} {p pos tpos : Pos} {elts : List Expr} {kk : Nat} (hm : X.mg "zip" = none) (ha : AA X [e, e2] t d) (hg : Gl X "zip" := by rfl)
    (hs : starEach [e, e2] X.env = (false, eval e X.env) :: starEach [e2] X.env := by rfl) (hpl : (backTo pos (starEach [e2] X.env)).any (·.1) = false := by rfl) :
    II X (.Tuple elts kk tpos) (.Call (.Name "zip" p) [e, e2] [] pos) (iZip X.K t) (diZip d) := by
  refine ⟨pi_zip hg hm ha.p hs hpl, fun F σ H E M Q R A hd k => ?_⟩
  refine ha.l F σ H E M _ _ A hd fun F1 H1 E1 M1 xs vs s1 A1 r1 h1 => ?_
  split at h1
  · rename_i x y
    obtain ⟨v, u, rfl, q1, q2⟩ := r1.two
    split at h1
    · rename_i ds es hds hes
      obtain ⟨a, xs, rfl, sa, ra⟩ := rowOf_at q1 hds
      obtain ⟨b, ys, rfl, sb, rb⟩ := rowOf_at q2 hes
      refine ⟨a, b, xs, ys, rfl, A1.m.lstF sa, A1.m.lstF sb, k F1 H1 E1 M1 _ _ [] s1 A1 (fun F2 H2 M2 e m _ => ?_) hid_nil h1⟩
      have sa2 : SqL X.K H2 a xs := m.lstF (SqL.mono e sa)
      have sb2 : SqL X.K H2 b ys := m.lstF (SqL.mono e sb)
      have la := ra.length
      have lb := rb.length
      have hl : (zipD ds es).length = min ds.length es.length := by unfold zipD; rw [List.length_zipWith]
      refine ⟨fun i h => ⟨xs, ys, sa2, sb2, by omega⟩, fun i d hd => ?_⟩
      unfold zipD at hd
      rw [List.getElem?_zipWith] at hd
      cases hx : ds[i]? with
      | none => rw [hx] at hd; cases hd
      | some dx =>
        cases hy : es[i]? with
        | none => rw [hx, hy] at hd; cases hd
        | some dy =>
          rw [hx, hy] at hd
          cases hd
          obtain ⟨x, e1, e2⟩ := ra.get hx
          obtain ⟨y, e3, e4⟩ := rb.get hy
          refine ⟨⟨xs, ys, x, y, sa2, sb2, e1, e3⟩, fun v H' ⟨T, x', y', ev, hT, eh, hz1, hz2⟩ => ?_⟩
          subst ev eh
          have z1 := hz1 xs sa2
          have z2 := hz2 ys sb2
          rw [e1] at z1
          rw [e3] at z2
          cases z1
          cases z2
          exact yield_tup m hT (.cons (e2.mono e) (.cons (e4.mono e) .nil))
    · exact h1.elim
  · exact h1.elim
/-- reversed -/
def diRev (d : DTA) : DTI := fun E M Q => d E M fun xs E1 M1 => match xs with
  | [x] => match rowOf x with
    | some ds => Q ds.reverse E1 M1
    | none => False
  | _ => False
theorem i_rev {tg e : Expr} {t : TA} {d : DTA} {p pos : Pos} (hm : X.mg "reversed" = none) (ha : AA X [e] t d) (hg : Gl X "reversed" := by rfl) (hs : starEach [e] X.env = [(false, eval e X.env)] := by rfl) :
    II X tg (.Call (.Name "reversed" p) [e] [] pos) (iRev X.K t) (diRev d) := by
  refine ⟨pi_reversed hg hm ha.p hs, fun F σ H E M Q R A hd k => ?_⟩
  refine ha.l F σ H E M _ _ A hd fun F1 H1 E1 M1 xs vs s1 A1 r1 h1 => ?_
  split at h1
  · rename_i x
    obtain ⟨v, rfl, q⟩ := r1.one
    split at h1
    · rename_i ds hds
      obtain ⟨a, ys, rfl, s, rr⟩ := rowOf_at q hds
      refine ⟨a, ys, rfl, A1.m.lstF s, k F1 H1 E1 M1 _ _ [] s1 A1 (fun F2 H2 M2 e m _ => ?_) hid_nil h1⟩
      have sH : SqL X.K H2 a ys := m.lstF (SqL.mono e s)
      have hl := rr.length
      refine ⟨fun i h => by show ys.length ≤ i; rw [List.length_reverse] at h; omega, fun i d hd => ?_⟩
      have hi := (List.getElem?_eq_some_iff.mp hd).1
      rw [List.length_reverse] at hi
      rw [List.getElem?_reverse hi] at hd
      obtain ⟨y, e1, e2⟩ := rr.get hd
      rw [hl] at e1
      refine ⟨⟨by omega, ys, y, sH, e1⟩, fun v H' ⟨eh, hz⟩ => ?_⟩
      subst eh
      have := hz ys sH
      rw [e1] at this
      cases this
      exact ⟨F2, Step.refl, m, e2.mono e⟩
    · exact h1.elim
  · exact h1.elim
/-! ### a dict walked, locked -/
def itemsD (kvs : List (Key × D)) : List D := kvs.map fun kv => D.tup [.v (kV kv.1), kv.2]
def keysD (kvs : List (Key × D)) : List D := kvs.map fun kv => D.v (kV kv.1)
def valsD (kvs : List (Key × D)) : List D := kvs.map fun kv => kv.2
theorem repP_get {K : PySem.W.Frag} {F : Hp} {kvs : List (Key × D)} {ks : List (Key × V)} (r : RepP K F kvs ks) {i : Nat} {p : Key × D} (h : kvs[i]? = some p) : ∃ v, ks[i]? = some (p.1, v) ∧ Rep K F p.2 v := by
  obtain ⟨q, e1, e2⟩ := paired_get r h
  obtain ⟨k, v⟩ := q
  have e3 : p.1 = k := e2.1
  exact ⟨v, by rw [e3]; exact e1, e2.2⟩
theorem walks_items {K : PySem.W.Frag} {F : Hp} {a : Addr} {od : Obj} {kvs : List (Key × D)} {ks : List (Key × V)} (r : RepP K F kvs ks) : Walks K (Iti a od ks) (itemsD kvs) F [(a, .frz od (.dK ks))] := fun F2 H2 M2 e m hh => by
  have hd := (hh _ (List.mem_singleton.mpr rfl)).1
  have hl := paired_len r
  refine ⟨fun i h => ⟨hd, by unfold itemsD at h; rw [List.length_map] at h; omega⟩, fun i d hx => ?_⟩
  unfold itemsD at hx
  rw [List.getElem?_map] at hx
  cases hp : kvs[i]? with
  | none => rw [hp] at hx; cases hx
  | some p =>
    rw [hp] at hx
    cases hx
    obtain ⟨v, e1, e2⟩ := repP_get r hp
    refine ⟨⟨hd, (List.getElem?_eq_some_iff.mp e1).1⟩, fun x H' ⟨T, k, w, e3, ex, hT, eh⟩ => ?_⟩
    subst ex eh
    rw [e1] at e3
    cases e3
    exact yield_tup m hT (.cons Rep.of_v (.cons (e2.mono e) .nil))
theorem walks_keys {K : PySem.W.Frag} {F : Hp} {a : Addr} {od : Obj} {kvs : List (Key × D)} {ks : List (Key × V)} (r : RepP K F kvs ks) : Walks K (Itk a od ks) (keysD kvs) F [(a, .frz od (.dK ks))] := fun F2 H2 M2 e m hh => by
  have hd := (hh _ (List.mem_singleton.mpr rfl)).1
  have hl := paired_len r
  refine ⟨fun i h => ⟨hd, by unfold keysD at h; rw [List.length_map] at h; omega⟩, fun i d hx => ?_⟩
  unfold keysD at hx
  rw [List.getElem?_map] at hx
  cases hp : kvs[i]? with
  | none => rw [hp] at hx; cases hx
  | some p =>
    rw [hp] at hx
    cases hx
    obtain ⟨v, e1, e2⟩ := repP_get r hp
    refine ⟨⟨hd, (List.getElem?_eq_some_iff.mp e1).1⟩, fun x H' ⟨eh, k, w, e3, ex⟩ => ?_⟩
    subst ex eh
    rw [e1] at e3
    cases e3
    exact ⟨F2, Step.refl, m, Rep.of_v⟩
theorem walks_vals {K : PySem.W.Frag} {F : Hp} {a : Addr} {od : Obj} {kvs : List (Key × D)} {ks : List (Key × V)} (r : RepP K F kvs ks) : Walks K (Itd a od ks) (valsD kvs) F [(a, .frz od (.dK ks))] := fun F2 H2 M2 e m hh => by
  have hd := (hh _ (List.mem_singleton.mpr rfl)).1
  have hl := paired_len r
  refine ⟨fun i h => ⟨hd, by unfold valsD at h; rw [List.length_map] at h; omega⟩, fun i d hx => ?_⟩
  unfold valsD at hx
  rw [List.getElem?_map] at hx
  cases hp : kvs[i]? with
  | none => rw [hp] at hx; cases hx
  | some p =>
    rw [hp] at hx
    cases hx
    obtain ⟨v, e1, e2⟩ := repP_get r hp
    refine ⟨⟨hd, (List.getElem?_eq_some_iff.mp e1).1⟩, fun x H' ⟨eh, k, e3⟩ => ?_⟩
    subst eh
    rw [e1] at e3
    cases e3
    exact ⟨F2, Step.refl, m, e2.mono e⟩
/-- the cell at a hidden while it is locked -/
theorem Abs.locked {K : PySem.W.Frag} {F : Hp} {σ : L2.St} {H : Hp} {E : DEnv} {M : Mem} {a : Addr} {kvs : List (Key × D)} (A : Abs K F σ H E M) (h : M a = some (.dct kvs)) :
    ∃ ks, H a = some (.dK ks) ∧ RepP K F kvs ks ∧ F a = none ∧ ∀ od, Abs K F σ (upd H a (.frz od (.dK ks))) E (rmM M a) ∧ Hid [(a, .frz od (.dK ks))] F (upd H a (.frz od (.dK ks))) (rmM M a) := by
  obtain ⟨f, ks, e, r⟩ := A.m.mem a _ h
  refine ⟨ks, e, r, f, fun od => ⟨⟨⟨fun b u q => ?_, fun b c q => ?_⟩, A.e⟩, fun p hp => ?_⟩⟩
  · rw [upd_ne (ne_of_none q f)]
    exact A.m.same b u q
  · have ne : b ≠ a := by
      rintro rfl
      rw [rmM_same] at q
      cases q
    rw [rmM_ne ne] at q
    obtain ⟨f2, c2⟩ := A.m.mem b c q
    exact ⟨f2, c2.mono (Same.refl F) (by rw [upd_ne ne])⟩
  · cases List.mem_singleton.mp hp
    exact ⟨upd_same, f, rmM_same⟩
/-- behind it: the cell stands again -/
theorem unlocked {K : PySem.W.Frag} {F F' : Hp} {H H' : Hp} {M M' : Mem} {a : Addr} {kvs : List (Key × D)} {ks : List (Key × V)} {od : Obj} (h : M a = some (.dct kvs)) (r : RepP K F kvs ks) (hf : F a = none)
    (s : Step F (upd H a (.frz od (.dK ks))) (rmM M a) F' H' M') (m : MAbs K F' H' M') (hh : Hid [(a, .frz od (.dK ks))] F' H' M') :
    H' a = some (.frz od (.dK ks)) ∧ Step F H M F' (upd H' a (.dK ks)) (updM M' a (.dct kvs)) ∧ MAbs K F' (upd H' a (.dK ks)) (updM M' a (.dct kvs)) := by
  obtain ⟨h1, h2, h3⟩ := hh _ (List.mem_singleton.mpr rfl)
  refine ⟨h1, ⟨s.grow, fun b u q f0 m0 => ?_⟩, ⟨fun b u q => ?_, fun b c q => ?_⟩⟩
  · have ne : b ≠ a := by
      rintro rfl
      rw [h] at m0
      cases m0
    obtain ⟨g1, g2, g3⟩ := s.frame b u (by rw [upd_ne ne]; exact q) f0 (by rw [rmM_ne ne]; exact m0)
    exact ⟨by rw [upd_ne ne]; exact g1, g2, by rw [updM_ne ne]; exact g3⟩
  · rw [upd_ne (ne_of_none q h2)]
    exact m.same b u q
  · by_cases hb : b = a
    · subst hb
      rw [updM_same] at q
      cases q
      exact ⟨h2, ks, upd_same, RepP.mono s.grow r⟩
    · rw [updM_ne hb] at q
      obtain ⟨f2, c2⟩ := m.mem b c q
      exact ⟨f2, c2.mono (Same.refl F') (by rw [upd_ne hb])⟩
/-- for target in d.items() (keys, values: by what is walked) -/
def backA (A : DEnds) (a : Addr) (kvs : List (Key × D)) : DEnds where
  nx := fun E M => A.nx E (updM M a (.dct kvs))
  rt := fun r M => A.rt r (updM M a (.dct kvs))
  bk := fun E M => A.bk E (updM M a (.dct kvs))
  ct := fun E M => A.ct E (updM M a (.dct kvs))
def dForD (w : List (Key × D) → List D) (de : DTE) (g : DTG) (b : DTS) : DTS := fun A E M => ∃ a kvs, M a = some (.dct kvs) ∧ de E (rmM M a) fun x E1 M1 => x = .v (.ref a) ∧ dLoop g b (w kvs) (backA A a kvs) E1 M1
theorem lift_forD {K : PySem.W.Frag} {td : TE} {de : DTE} {g : TG} {dg : DTG} {sl : List Nat} {tb : TS} {db : DTS} {w : List (Key × D) → List D} {It0 : Addr → Obj → List (Key × V) → It} {wi : TI}
    (hw : ∀ {F : Hp} {a : Addr} {od : Obj} {kvs : List (Key × D)} {ks : List (Key × V)}, RepP K F kvs ks → Walks K (It0 a od ks) (w kvs) F [(a, .frz od (.dK ks))])
    (hi : ∀ σ H R, (td σ H fun x H1 => ∃ d o kvs, x = .ref d ∧ H1 d = some (.frz o (.dK kvs)) ∧ R (It0 d o kvs) H1) → wi σ H R)
    (le : LiftE K td de) (lg : LiftG K g dg sl) (lb : LiftS K tb db) : LiftS K (tLock (tFor wi g tb)) (dForD w de dg db) := by
  intro F σ H E M A P a0 h k kr
  obtain ⟨a, kvs, hM, h⟩ := h
  obtain ⟨ks, e, r, hf, lk⟩ := a0.locked hM
  refine ⟨a, .dK ks, e, trivial, fun od => ?_⟩
  obtain ⟨a1, hh⟩ := lk od
  refine hi _ _ _ (le F σ _ E _ _ _ a1 h fun F2 H2 E2 M2 x v s2 a2 r2 h2 => ?_)
  obtain ⟨ex, h2⟩ := h2
  subst ex
  have hh2 := hh.step s2
  have rr2 := RepP.mono s2.grow r
  refine ⟨a, od, ks, Rep.v_eq r2, (hh2 _ (List.mem_singleton.mpr rfl)).1, ?_⟩
  refine loop_core lg lb a2 (hw rr2) hh2 h2 (fun F3 σ3 H3 E3 M3 s3 a3 => ?_) fun F3 H3 M3 z v s3 a3 r3 q => ?_
  · obtain ⟨g1, g2, g3⟩ := unlocked hM r hf (s2.trans s3) a3.m (hh2.step s3)
    have kk := k F3 σ3 _ E3 _ g2 ⟨g3, a3.e⟩
    exact ⟨fun q => ⟨g1, kk.1 q⟩, fun q => ⟨g1, kk.2.1 q⟩, fun q => ⟨g1, kk.2.2 q⟩⟩
  · obtain ⟨g1, g2, g3⟩ := unlocked hM r hf (s2.trans s3) a3 (hh2.step s3)
    exact ⟨g1, kr F3 _ _ z v g2 g3 r3 q⟩
theorem s_forItems {elts : List Expr} {kk : Nat} {tpos apos cpos pos : Pos} {e : Expr} {body : List Stmt} {td : TE} {de : DTE} {g : TG} {dg : DTG} {sl : List Nat} {tb : TS} {db : DTS} (hp : PassesOwn (model X.prog X.w) X.A X.env X.xe) (hc : X.calm = true) (he : EE X e td de) (hg : GG X (.Tuple elts kk tpos) g dg sl) (hb : Ss X body tb db)
    (hbase : attributeBase e "items" X.env (eval e X.env) = eval e X.env := by rfl) (hline : (apos.endLine == cpos.line) = true := by rfl) (hs : ∀ x, foldedSetIterable (.Call (.Attribute e "items" apos) [] [] cpos) X.env x = pure x := by intro _; rfl) :
    SS X (.For (.Tuple elts kk tpos) (.Call (.Attribute e "items" apos) [] [] cpos) body [] pos) (tLock (tFor (iItems td) g tb)) (dForD itemsD de dg db) :=
  ⟨ps_lock (ps_for hp hc (pi_items he.p hbase hline) hg.p hb.p hs), lift_forD (It0 := Iti) (fun r => walks_items r) (fun σ H R z => z) he.l hg.l hb.l⟩
end
/-! ### comprehensions -/
def wipeD (E : DEnv) : List Nat → DEnv
  | [] => E
  | v :: vs => (wipeD E vs).set v none
theorem ERep.wipe {K : PySem.W.Frag} {F : Hp} {σ : L2.St} {E : DEnv} (h : ERep K F σ E) : ∀ vs : List Nat, ERep K F (wipe σ vs) (wipeD E vs)
  | [] => h
  | v :: vs => by
    have ih := ERep.wipe h vs
    refine ⟨by unfold L2.wipe wipeD; rw [List.length_set, List.length_set]; exact ih.1, fun j c e => ?_⟩
    unfold wipeD at e
    unfold L2.wipe
    by_cases hj : v = j
    · subst hj
      rw [List.getElem?_set] at e
      rw [if_pos rfl] at e
      split at e <;> cases e
    · rw [List.getElem?_set_ne hj] at e ⊢
      exact ih.2 j c e
theorem wipe_at (σ : L2.St) (j : Nat) : ∀ vs : List Nat, (wipe σ vs)[j]? = if j ∈ vs then (if j < σ.length then some none else none) else σ[j]?
  | [] => by
    rw [if_neg (List.not_mem_nil)]
    rfl
  | v :: vs => by
    have ih := wipe_at σ j vs
    unfold wipe
    rw [List.getElem?_set]
    by_cases hj : v = j
    · subst hj
      rw [if_pos rfl, if_pos List.mem_cons_self, wipe_length]
    · rw [if_neg hj, ih]
      by_cases hm : j ∈ vs
      · rw [if_pos hm, if_pos (List.mem_cons_of_mem _ hm)]
      · rw [if_neg hm, if_neg (fun z => (List.mem_cons.mp z).elim (fun z => hj z.symm) hm)]
theorem wipe_same {σ σ' : L2.St} {vs sl : List Nat} (hs : ∀ j ∈ sl, j ∈ vs) (hk : ∀ j, j ∉ sl → σ'[j]? = (wipe σ vs)[j]?) (hl : σ'.length = (wipe σ vs).length) : wipe σ' vs = wipe σ vs := by
  apply List.ext_getElem?
  intro j
  rw [wipe_length] at hl
  rw [wipe_at, wipe_at]
  by_cases hm : j ∈ vs
  · rw [if_pos hm, if_pos hm, hl]
  · rw [if_neg hm, if_neg hm, hk j fun z => hm (hs j z), wipe_at, if_neg hm]
theorem mem_of_all {sl vs : List Nat} (h : sl.all (fun j => vs.contains j) = true) : ∀ j ∈ sl, j ∈ vs := fun j hj => by
  have := List.all_eq_true.mp h j hj
  simpa using this
structure TTs (X : Cx) (ifs : List Expr) (t : TT) (d : DTT) : Prop where
  p : PTs X ifs t
  l : LiftT X.K t d
def dYes : DTT := fun E M Q => Q true E M
theorem ts_nil {X : Cx} : TTs X [] tYes dYes := ⟨pts_nil, fun F σ H E M Q P A h k => k F H E M true Step.refl A h⟩
theorem ts_one {X : Cx} {c : Expr} {t : TT} {d : DTT} (h : BB X c t d) : TTs X [c] t d := ⟨pts_one h.p, h.l⟩
def dComp (g : DTG) (t : DTT) (e : DTE) (vs : List Nat) (E : DEnv) (fin : List D → Mem → Prop) : List D → List D → Mem → Prop
  | [], acc, M => fin acc M
  | d :: ds, acc, M => g d (wipeD E vs) fun E2 => t E2 M fun b E3 M3 => if b = true then e E3 M3 fun y _ M4 => acc.length < sizeLine ∧ dComp g t e vs E fin ds (acc ++ [y]) M4 else dComp g t e vs E fin ds acc M3
def dLc (di : DTI) (g : DTG) (t : DTT) (e : DTE) (vs : List Nat) : DTE := fun E M Q => di E M fun ds E1 M1 => dComp g t e vs E1 (fun acc M2 => Q (.lst acc) E1 M2) ds [] M1
def dLcC (di : DTI) (g : DTG) (t : DTT) (e : DTE) (vs : List Nat) : DTE := fun E M Q => di E M fun ds E1 M1 => dComp g t e vs E1 (fun acc M2 => ∀ p, M2 p = none → Q (.v (.ref p)) E1 (updM M2 p (.lst acc))) ds [] M1
section
variable {K : PySem.W.Frag} {g : TG} {dg : DTG} {sl vs : List Nat} {tt : TT} {dt : DTT} {te : TE} {de : DTE}
theorem comp_core (lg : LiftG K g dg sl) (hsl : ∀ j ∈ sl, j ∈ vs) (lt : LiftT K tt dt) (le : LiftE K te de) {F1 : Hp} {σ : L2.St} {H1 : Hp} {E1 : DEnv} {M1 : Mem} {fin : List D → Mem → Prop} {Qh : Hp → Prop} {ds : List D} {J : It} {hid : List (Addr × HO)} (a1 : Abs K F1 σ H1 E1 M1)
    (w : Walks K J ds F1 hid) (hh : Hid hid F1 H1 M1) (h1 : dComp dg dt de vs E1 fin ds [] M1) {D0 : Addr} (hD : H1 D0 = none)
    (kf : ∀ acc F' H' M' av, Step F1 H1 M1 F' H' M' → MAbs K F' H' M' → Hid hid F' H' M' → H' D0 = some (.lst av) → F' D0 = none → M' D0 = none → RepL K F' acc av → fin acc M' → Qh H') :
    ∃ W : Nat → Nat → Hp → Prop, (∃ m, W 0 m (upd H1 D0 (.lst []))) ∧ ∀ i m H, W i m H →
      (J.stop i H ∧ Qh H) ∨ (J.go i H ∧ ∃ Nx : Hp → Prop, (∀ H', Nx H' → ∃ m', m' < m ∧ W (i + 1) m' H') ∧ ∀ x H', J.yld i H x H' → g x (wipe σ vs) H' fun σ2 H2 => wipe σ2 vs = wipe σ vs ∧ tt σ2 H2 fun b H3 =>
        if b = true then te σ2 H3 fun y H4 => ∃ acc, H4 D0 = some (.lst acc) ∧ acc.length < sizeLine ∧ Nx (upd H4 D0 (.lst (acc ++ [y]))) else Nx H3) := by
  obtain ⟨f0, m0⟩ := a1.m.free hD
  -- the state: the new list beside all else
  let St1 : Nat → List D → Hp → Mem → Hp → Prop := fun i acc F' M' H' => ∃ av, Step F1 H1 M1 F' H' M' ∧ MAbs K F' H' M' ∧ Hid hid F' H' M' ∧ H' D0 = some (.lst av) ∧ F' D0 = none ∧ M' D0 = none ∧ RepL K F' acc av
  have put : ∀ {F' H' : Hp} {M' : Mem} {av : List V}, Step F1 H1 M1 F' H' M' → MAbs K F' H' M' → Hid hid F' H' M' → F' D0 = none → M' D0 = none → (∀ p ∈ hid, p.1 ≠ D0) → Step F1 H1 M1 F' (upd H' D0 (.lst av)) M' ∧ MAbs K F' (upd H' D0 (.lst av)) M' ∧ Hid hid F' (upd H' D0 (.lst av)) M' := fun {F' H' M' av} s m hd hf hm hp => by
    refine ⟨⟨s.grow, fun b u q f mm => ?_⟩, ⟨fun b u q => ?_, fun b c q => ?_⟩, fun p hp' => ?_⟩
    · have ne : b ≠ D0 := ne_of_none q hD
      rw [upd_ne ne]
      exact s.frame b u q f mm
    · rw [upd_ne (ne_of_none q hf)]
      exact m.same b u q
    · have ne : b ≠ D0 := by
        rintro rfl
        rw [hm] at q
        cases q
      obtain ⟨f2, c2⟩ := m.mem b c q
      exact ⟨f2, c2.mono (Same.refl F') (by rw [upd_ne ne])⟩
    · rw [upd_ne (hp p hp')]
      exact hd p hp'
  have hidne : ∀ p ∈ hid, p.1 ≠ D0 := fun p hp => ne_of_none (hh p hp).1 hD
  refine ⟨fun i m H' => m = ds.length - i ∧ i ≤ ds.length ∧ ∃ F' M' acc, St1 i acc F' M' H' ∧ dComp dg dt de vs E1 fin (ds.drop i) acc M', ⟨ds.length, rfl, Nat.zero_le _, F1, M1, [], ⟨[], ?_⟩, h1⟩, ?_⟩
  · obtain ⟨s, m, hd⟩ := put (av := []) Step.refl a1.m hh f0 m0 hidne
    exact ⟨s, m, hd, upd_same, f0, m0, RepL.nil⟩
  rintro i m H2 ⟨rfl, hi, F2, M2, acc, ⟨av, s2, m2, hh2, e2, fD, mD, ra⟩, h2⟩
  obtain ⟨w1, w2⟩ := w F2 H2 M2 s2.grow m2 hh2
  by_cases hlt : i < ds.length
  · have hd : ds[i]? = some ds[i] := List.getElem?_eq_getElem hlt
    have hdrop : ds.drop i = ds[i] :: ds.drop (i + 1) := List.drop_eq_getElem_cons hlt
    rw [hdrop] at h2
    obtain ⟨go, yl⟩ := w2 i _ hd
    refine .inr ⟨go, fun H' => ∃ F' M' acc', St1 (i + 1) acc' F' M' H' ∧ dComp dg dt de vs E1 fin (ds.drop (i + 1)) acc' M', fun H' q => ⟨ds.length - (i + 1), by omega, rfl, hlt, q⟩, fun x H3 y => ?_⟩
    obtain ⟨F3, s3, m3, r3⟩ := yl x H3 y
    have a3 : Abs K F3 (wipe σ vs) H3 (wipeD E1 vs) M2 := ⟨m3, ERep.wipe (a1.e.mono (s2.trans s3).grow) vs⟩
    refine lg F3 _ H3 _ M2 _ x _ _ a3 r3 h2 fun σ4 E4 a4 hk hl h4 => ⟨wipe_same hsl hk hl, ?_⟩
    refine lt F3 σ4 H3 E4 M2 _ _ a4 h4 fun F5 H5 E5 M5 b s5 a5 h5 => ?_
    obtain ⟨e5, fD5, mD5⟩ := (s3.trans s5).frame D0 _ e2 fD mD
    have hh5 := hh2.step (s3.trans s5)
    cases b with
    | true =>
      rw [if_pos rfl] at h5 ⊢
      refine le F5 σ4 H5 E5 M5 _ _ a5 h5 fun F6 H6 E6 M6 z v s6 a6 r6 h6 => ?_
      obtain ⟨e6, fD6, mD6⟩ := s6.frame D0 _ e5 fD5 mD5
      refine ⟨av, e6, by rw [← ra.length]; exact h6.1, F6, M6, acc ++ [z], ⟨av ++ [v], ?_⟩, h6.2⟩
      obtain ⟨q1, q2, q3⟩ := put (av := av ++ [v]) (((s2.trans s3).trans s5).trans s6) a6.m (hh5.step s6) fD6 mD6 hidne
      exact ⟨q1, q2, q3, upd_same, fD6, mD6, (ra.mono ((s3.trans s5).trans s6).grow).snoc r6⟩
    | false =>
      rw [if_neg Bool.false_ne_true] at h5 ⊢
      exact ⟨F5, M5, acc, ⟨av, (s2.trans s3).trans s5, a5.m, hh5, e5, fD5, mD5, ra.mono (s3.trans s5).grow⟩, h5⟩
  · have e : i = ds.length := by omega
    subst e
    rw [List.drop_length] at h2
    exact .inl ⟨w1 _ rfl, kf acc F2 H2 M2 av s2 m2 hh2 e2 fD mD ra h2⟩
theorem froz_at {F H : Hp} {M : Mem} {a : Addr} {o : HO} (m : MAbs K F H M) (h : H a = some o) (hf : F a = none) (hm : M a = none) {F0 H0 : Hp} {M0 : Mem} (s : Step F0 H0 M0 F H M) (h0 : H0 a = none) : Step F0 H0 M0 (upd F a o) H M ∧ MAbs K (upd F a o) H M ∧ Same F (upd F a o) := by
  have g : Same F (upd F a o) := fun b u e => by
    rw [upd_ne (ne_of_none e hf)]
    exact e
  refine ⟨⟨s.grow.trans g, fun b u q f mm => ?_⟩, ⟨fun b u q => ?_, fun b c q => ?_⟩, g⟩
  · obtain ⟨z1, z2, z3⟩ := s.frame b u q f mm
    exact ⟨z1, by rw [upd_ne (ne_of_none q h0)]; exact z2, z3⟩
  · by_cases hb : b = a
    · subst hb
      rw [upd_same] at q
      cases q
      exact h
    · rw [upd_ne hb] at q
      exact m.same b u q
  · have ne : b ≠ a := by
      rintro rfl
      rw [hm] at q
      cases q
    obtain ⟨f2, c2⟩ := m.mem b c q
    exact ⟨by rw [upd_ne ne]; exact f2, c2.mono g rfl⟩
theorem cell_at {F H : Hp} {M : Mem} {a : Addr} {xs : List V} {ds : List D} (m : MAbs K F H M) (h : H a = some (.lst xs)) (hf : F a = none) (hm : M a = none) (r : RepL K F ds xs) {F0 H0 : Hp} {M0 : Mem} (s : Step F0 H0 M0 F H M) (h0 : H0 a = none) : Step F0 H0 M0 F H (updM M a (.lst ds)) ∧ MAbs K F H (updM M a (.lst ds)) := by
  refine ⟨⟨s.grow, fun b u q f mm => ?_⟩, ⟨m.same, fun b c q => ?_⟩⟩
  · obtain ⟨z1, z2, z3⟩ := s.frame b u q f mm
    exact ⟨z1, z2, by rw [updM_ne (ne_of_none q h0)]; exact z3⟩
  · by_cases hb : b = a
    · subst hb
      rw [updM_same] at q
      cases q
      exact ⟨hf, xs, h, r⟩
    · rw [updM_ne hb] at q
      exact m.mem b c q
theorem lift_lc {wi : TI} {di : DTI} (li : LiftI K wi di) (lg : LiftG K g dg sl) (hsl : ∀ j ∈ sl, j ∈ vs) (lt : LiftT K tt dt) (le : LiftE K te de) : LiftE K (tLc wi g tt te vs) (dLc di dg dt de vs) := by
  intro F σ H E M Q P A h k
  refine li F σ H E M _ _ A h fun F1 H1 E1 M1 ds J hid s1 a1 w hh h1 D0 hD => ?_
  refine comp_core lg hsl lt le a1 w hh h1 hD fun acc F2 H2 M2 av s2 m2 hh2 e2 fD mD ra h2 => ?_
  obtain ⟨q1, q2, q3⟩ := froz_at m2 e2 fD mD s2 hD
  exact k _ H2 E1 M2 (.lst acc) _ (s1.trans q1) ⟨q2, a1.e.mono q1.grow⟩ (Rep.lst_iff.mpr ⟨D0, av, rfl, upd_same, ra.mono q3⟩) h2
theorem lift_lcC {wi : TI} {di : DTI} (li : LiftI K wi di) (lg : LiftG K g dg sl) (hsl : ∀ j ∈ sl, j ∈ vs) (lt : LiftT K tt dt) (le : LiftE K te de) : LiftE K (tLc wi g tt te vs) (dLcC di dg dt de vs) := by
  intro F σ H E M Q P A h k
  refine li F σ H E M _ _ A h fun F1 H1 E1 M1 ds J hid s1 a1 w hh h1 D0 hD => ?_
  refine comp_core lg hsl lt le a1 w hh h1 hD fun acc F2 H2 M2 av s2 m2 hh2 e2 fD mD ra h2 => ?_
  obtain ⟨q1, q2⟩ := cell_at m2 e2 fD mD ra s2 hD
  exact k F2 H2 E1 _ (.v (.ref D0)) _ (s1.trans q1) ⟨q2, a1.e.mono s2.grow⟩ Rep.of_v (h2 D0 mD)
/-- over a dict, locked -/
def dLcD (w : List (Key × D) → List D) (dd : DTE) (g : DTG) (t : DTT) (e : DTE) (vs : List Nat) : DTE := fun E M Q => ∃ a kvs, M a = some (.dct kvs) ∧ dd E (rmM M a) fun x E1 M1 => x = .v (.ref a) ∧ dComp g t e vs E1 (fun acc M2 => Q (.lst acc) E1 (updM M2 a (.dct kvs))) (w kvs) [] M1
theorem lift_lcD {td : TE} {dd : DTE} {w : List (Key × D) → List D} {It0 : Addr → Obj → List (Key × V) → It} {wi : TI}
    (hw : ∀ {F : Hp} {a : Addr} {od : Obj} {kvs : List (Key × D)} {ks : List (Key × V)}, RepP K F kvs ks → Walks K (It0 a od ks) (w kvs) F [(a, .frz od (.dK ks))])
    (hi : ∀ σ H R, (td σ H fun x H1 => ∃ d o kvs, x = .ref d ∧ H1 d = some (.frz o (.dK kvs)) ∧ R (It0 d o kvs) H1) → wi σ H R)
    (ld : LiftE K td dd) (lg : LiftG K g dg sl) (hsl : ∀ j ∈ sl, j ∈ vs) (lt : LiftT K tt dt) (le : LiftE K te de) : LiftE K (tLockE (tLc wi g tt te vs)) (dLcD w dd dg dt de vs) := by
  intro F σ H E M Q P a0 h k
  obtain ⟨a, kvs, hM, h⟩ := h
  obtain ⟨ks, e, r, hf, lk⟩ := a0.locked hM
  refine ⟨a, .dK ks, e, trivial, fun od => ?_⟩
  obtain ⟨a1, hh⟩ := lk od
  refine hi _ _ _ (ld F σ _ E _ _ _ a1 h fun F2 H2 E2 M2 x v s2 a2 r2 h2 => ?_)
  obtain ⟨ex, h2⟩ := h2
  subst ex
  have hh2 := hh.step s2
  have rr2 := RepP.mono s2.grow r
  refine ⟨a, od, ks, Rep.v_eq r2, (hh2 _ (List.mem_singleton.mpr rfl)).1, fun D0 hD => ?_⟩
  refine comp_core lg hsl lt le a2 (hw rr2) hh2 h2 hD fun acc F3 H3 M3 av s3 m3 hh3 e3 fD mD ra h3 => ?_
  obtain ⟨q1, q2, q3⟩ := froz_at m3 e3 fD mD s3 hD
  have hh4 : Hid [(a, .frz od (.dK ks))] (upd F3 D0 (.lst av)) H3 M3 := hh2.step q1
  obtain ⟨g1, g2, g3⟩ := unlocked hM r hf (s2.trans q1) q2 hh4
  refine ⟨g1, k _ _ E2 _ (.lst acc) _ g2 ⟨g3, a2.e.mono q1.grow⟩ (Rep.lst_iff.mpr ⟨D0, av, rfl, upd_same, ra.mono q3⟩) h3⟩
end
section
variable {X : Cx}
theorem e_lc {elt tg iter : Expr} {ifs : List Expr} {scope : Scope} {own : List (Str × Nat)} {pos : Pos} {wi : TI} {di : DTI} {g : TG} {dg : DTG} {sl : List Nat} {tt : TT} {dt : DTT} {te : TE} {de : DTE} (hc : X.calm = true) (hN : X.N.Nodup) (hi : II X tg iter wi di) (ok : BlkOk X.N X.env.scope scope own)
    (hg : ∀ (s : Shared) (H : Hp) (C : Addr) (cl : List (Str × Addr)) (fp : List Addr), GG (X.blk s H scope (compEnvC scope cl C X.env) fp) tg g dg sl) (ht : ∀ (s : Shared) (H : Hp) (C : Addr) (cl : List (Str × Addr)) (fp : List Addr), TTs (X.blk s H scope (compEnvC scope cl C X.env) fp) ifs tt dt)
    (he : ∀ (s : Shared) (H : Hp) (C : Addr) (cl : List (Str × Addr)) (fp : List Addr), EE (X.blk s H scope (compEnvC scope cl C X.env) fp) elt te de) (hsl : sl.all (fun j => (own.map (·.2)).contains j) = true := by rfl) (hs : ∀ x, foldedSetIterable iter X.env x = pure x := by intro _; rfl) :
    EE X (.ListComp elt [⟨tg, iter, ifs, 0⟩] scope pos) (tLc wi g tt te (own.map (·.2))) (dLc di dg dt de (own.map (·.2))) := by
  refine ⟨pe_lc hc hN hi.p ok (fun s H C cl fp => (hg s H C cl fp).p) (fun s H C cl fp => (ht s H C cl fp).p) (fun s H C cl fp => (he s H C cl fp).p) hs, ?_⟩
  exact lift_lc hi.l (hg {} (fun _ => none) 0 [] []).l (mem_of_all hsl) (ht {} (fun _ => none) 0 [] []).l (he {} (fun _ => none) 0 [] []).l
/-- .. a cell -/
theorem e_lcC {elt tg iter : Expr} {ifs : List Expr} {scope : Scope} {own : List (Str × Nat)} {pos : Pos} {wi : TI} {di : DTI} {g : TG} {dg : DTG} {sl : List Nat} {tt : TT} {dt : DTT} {te : TE} {de : DTE} (hc : X.calm = true) (hN : X.N.Nodup) (hi : II X tg iter wi di) (ok : BlkOk X.N X.env.scope scope own)
    (hg : ∀ (s : Shared) (H : Hp) (C : Addr) (cl : List (Str × Addr)) (fp : List Addr), GG (X.blk s H scope (compEnvC scope cl C X.env) fp) tg g dg sl) (ht : ∀ (s : Shared) (H : Hp) (C : Addr) (cl : List (Str × Addr)) (fp : List Addr), TTs (X.blk s H scope (compEnvC scope cl C X.env) fp) ifs tt dt)
    (he : ∀ (s : Shared) (H : Hp) (C : Addr) (cl : List (Str × Addr)) (fp : List Addr), EE (X.blk s H scope (compEnvC scope cl C X.env) fp) elt te de) (hsl : sl.all (fun j => (own.map (·.2)).contains j) = true := by rfl) (hs : ∀ x, foldedSetIterable iter X.env x = pure x := by intro _; rfl) :
    EE X (.ListComp elt [⟨tg, iter, ifs, 0⟩] scope pos) (tLc wi g tt te (own.map (·.2))) (dLcC di dg dt de (own.map (·.2))) :=
  ⟨pe_lc hc hN hi.p ok (fun s H C cl fp => (hg s H C cl fp).p) (fun s H C cl fp => (ht s H C cl fp).p) (fun s H C cl fp => (he s H C cl fp).p) hs,
    lift_lcC hi.l (hg {} (fun _ => none) 0 [] []).l (mem_of_all hsl) (ht {} (fun _ => none) 0 [] []).l (he {} (fun _ => none) 0 [] []).l⟩
/-- name = [..] (frozen; a cell) -/
theorem s_setLc {i : Nat} {y : Str} {py : Pos} {elt tg iter : Expr} {ifs : List Expr} {scope : Scope} {own : List (Str × Nat)} {pos spos : Pos} {wi : TI} {di : DTI} {g : TG} {dg : DTG} {sl : List Nat} {tt : TT} {dt : DTT} {te : TE} {de : DTE} (hc : X.calm = true) (hN : X.N.Nodup) (hyl : X.env.scope.names.lookup y = some .local)
    (hsw : swapsWith (.ListComp elt [⟨tg, iter, ifs, 0⟩] scope pos) (some (.Name y py)) spos.line X.env = pure true) (hi : II X tg iter wi di) (ok : BlkOk X.N X.env.scope scope own)
    (hg : ∀ (s : Shared) (H : Hp) (C : Addr) (cl : List (Str × Addr)) (fp : List Addr), GG (X.blk s H scope (compEnvC scope cl C X.env) fp) tg g dg sl) (ht : ∀ (s : Shared) (H : Hp) (C : Addr) (cl : List (Str × Addr)) (fp : List Addr), TTs (X.blk s H scope (compEnvC scope cl C X.env) fp) ifs tt dt)
    (he : ∀ (s : Shared) (H : Hp) (C : Addr) (cl : List (Str × Addr)) (fp : List Addr), EE (X.blk s H scope (compEnvC scope cl C X.env) fp) elt te de) (hy : X.N[i]? = some y := by rfl) (hsl : sl.all (fun j => (own.map (·.2)).contains j) = true := by rfl) (hs : ∀ x, foldedSetIterable iter X.env x = pure x := by intro _; rfl) :
    SS X (.Assign [.Name y py] (.ListComp elt [⟨tg, iter, ifs, 0⟩] scope pos) spos) (tAsg (tLc wi g tt te (own.map (·.2))) (gName i)) (dSet (dLc di dg dt de (own.map (·.2))) i) := by
  have l := lift_lc hi.l (hg {} (fun _ => none) 0 [] []).l (mem_of_all hsl) (ht {} (fun _ => none) 0 [] []).l (he {} (fun _ => none) 0 [] []).l
  refine ⟨ps_setLc hc hN hy hyl hsw hi.p ok (fun s H C cl fp => (hg s H C cl fp).p) (fun s H C cl fp => (ht s H C cl fp).p) (fun s H C cl fp => (he s H C cl fp).p) hs, fun F σ H E M A P a h k kr => ?_⟩
  exact l F σ H E M _ _ a h fun F1 H1 E1 M1 r v s1 a1 r1 h1 => (k F1 _ H1 _ M1 s1 ⟨a1.m, a1.e.set i r1⟩).1 h1
theorem s_setLcC {i : Nat} {y : Str} {py : Pos} {elt tg iter : Expr} {ifs : List Expr} {scope : Scope} {own : List (Str × Nat)} {pos spos : Pos} {wi : TI} {di : DTI} {g : TG} {dg : DTG} {sl : List Nat} {tt : TT} {dt : DTT} {te : TE} {de : DTE} (hc : X.calm = true) (hN : X.N.Nodup) (hyl : X.env.scope.names.lookup y = some .local)
    (hsw : swapsWith (.ListComp elt [⟨tg, iter, ifs, 0⟩] scope pos) (some (.Name y py)) spos.line X.env = pure true) (hi : II X tg iter wi di) (ok : BlkOk X.N X.env.scope scope own)
    (hg : ∀ (s : Shared) (H : Hp) (C : Addr) (cl : List (Str × Addr)) (fp : List Addr), GG (X.blk s H scope (compEnvC scope cl C X.env) fp) tg g dg sl) (ht : ∀ (s : Shared) (H : Hp) (C : Addr) (cl : List (Str × Addr)) (fp : List Addr), TTs (X.blk s H scope (compEnvC scope cl C X.env) fp) ifs tt dt)
    (he : ∀ (s : Shared) (H : Hp) (C : Addr) (cl : List (Str × Addr)) (fp : List Addr), EE (X.blk s H scope (compEnvC scope cl C X.env) fp) elt te de) (hy : X.N[i]? = some y := by rfl) (hsl : sl.all (fun j => (own.map (·.2)).contains j) = true := by rfl) (hs : ∀ x, foldedSetIterable iter X.env x = pure x := by intro _; rfl) :
    SS X (.Assign [.Name y py] (.ListComp elt [⟨tg, iter, ifs, 0⟩] scope pos) spos) (tAsg (tLc wi g tt te (own.map (·.2))) (gName i)) (dSet (dLcC di dg dt de (own.map (·.2))) i) := by
  have l := lift_lcC hi.l (hg {} (fun _ => none) 0 [] []).l (mem_of_all hsl) (ht {} (fun _ => none) 0 [] []).l (he {} (fun _ => none) 0 [] []).l
  refine ⟨ps_setLc hc hN hy hyl hsw hi.p ok (fun s H C cl fp => (hg s H C cl fp).p) (fun s H C cl fp => (ht s H C cl fp).p) (fun s H C cl fp => (he s H C cl fp).p) hs, fun F σ H E M A P a h k kr => ?_⟩
  exact l F σ H E M _ _ a h fun F1 H1 E1 M1 r v s1 a1 r1 h1 => (k F1 _ H1 _ M1 s1 ⟨a1.m, a1.e.set i r1⟩).1 h1
/-- over d.items() -/
theorem e_lcItems {elt : Expr} {elts : List Expr} {kk : Nat} {tpos apos cpos : Pos} {dx : Expr} {ifs : List Expr} {scope : Scope} {own : List (Str × Nat)} {pos : Pos} {td : TE} {dd : DTE} {g : TG} {dg : DTG} {sl : List Nat} {tt : TT} {dt : DTT} {te : TE} {de : DTE} (hc : X.calm = true) (hN : X.N.Nodup) (hd : EE X dx td dd) (ok : BlkOk X.N X.env.scope scope own)
    (hg : ∀ (s : Shared) (H : Hp) (C : Addr) (cl : List (Str × Addr)) (fp : List Addr), GG (X.blk s H scope (compEnvC scope cl C X.env) fp) (.Tuple elts kk tpos) g dg sl) (ht : ∀ (s : Shared) (H : Hp) (C : Addr) (cl : List (Str × Addr)) (fp : List Addr), TTs (X.blk s H scope (compEnvC scope cl C X.env) fp) ifs tt dt)
    (he : ∀ (s : Shared) (H : Hp) (C : Addr) (cl : List (Str × Addr)) (fp : List Addr), EE (X.blk s H scope (compEnvC scope cl C X.env) fp) elt te de) (hsl : sl.all (fun j => (own.map (·.2)).contains j) = true := by rfl)
    (hbase : attributeBase dx "items" X.env (eval dx X.env) = eval dx X.env := by rfl) (hline : (apos.endLine == cpos.line) = true := by rfl) (hs : ∀ x, foldedSetIterable (.Call (.Attribute dx "items" apos) [] [] cpos) X.env x = pure x := by intro _; rfl) :
    EE X (.ListComp elt [⟨.Tuple elts kk tpos, .Call (.Attribute dx "items" apos) [] [] cpos, ifs, 0⟩] scope pos) (tLockE (tLc (iItems td) g tt te (own.map (·.2)))) (dLcD itemsD dd dg dt de (own.map (·.2))) :=
  ⟨pe_lock (pe_lc hc hN (pi_items hd.p hbase hline) ok (fun s H C cl fp => (hg s H C cl fp).p) (fun s H C cl fp => (ht s H C cl fp).p) (fun s H C cl fp => (he s H C cl fp).p) hs),
    lift_lcD (It0 := Iti) (fun r => walks_items r) (fun σ H R z => z) hd.l (hg {} (fun _ => none) 0 [] []).l (mem_of_all hsl) (ht {} (fun _ => none) 0 [] []).l (he {} (fun _ => none) 0 [] []).l⟩
end
end DS

set_option Elab.async false
set_option linter.all false
set_option maxRecDepth 100000
set_option maxHeartbeats 2000000
/-! DS6: lists changed, data compared, slices, sums, sorts, dicts. -/
namespace DS
open PySem PySem.Spec PyProof.Rows L2

/-! ### data as the model's plain data -/
mutual
def toPy : D → PyData
  | .v .non => .none
  | .v (.bl b) => .bool b
  | .v (.int i) => .int i
  | .v (.str x) => .str x
  | .v _ => .dict []
  | .tup ds => .tuple (toPyL ds)
  | .lst ds => .list (toPyL ds)
  | .ro ds => .list (toPyL ds)
  | .obj _ _ _ => .dict []
def toPyL : List D → List PyData
  | [] => []
  | d :: ds => toPy d :: toPyL ds
end
theorem toPyL_map : ∀ ds : List D, toPyL ds = ds.map toPy
  | [] => by unfold toPyL; rfl
  | d :: ds => by unfold toPyL; rw [toPyL_map ds]; rfl
/-- data through and through -/
def IsPy (d : D) : Prop := (toPy d).canLay0 = true
mutual
theorem dp_of {K : PySem.W.Frag} {F H : Hp} {M : Mem} (A : MAbs K F H M) : ∀ {d : D} {x : V}, Rep K F d x → (toPy d).canLay0 = true → Dp K H x (toPy d)
  | .v y, x, r, h => by
    rw [Rep.v_eq r]
    cases y with
    | non => unfold toPy; exact .non
    | bl b => unfold toPy; exact .bl b
    | int i => unfold toPy; exact .int i
    | str z => unfold toPy; exact .str z
    | _ => unfold toPy at h; unfold PyData.canLay0 at h; cases h
  | .tup ds, x, r, h => by
    obtain ⟨a, xs, rfl, s, rr⟩ := Rep.tup_iff.mp r
    unfold toPy at h ⊢
    unfold PyData.canLay0 at h
    exact .tup (A.tupF s) (dpL_of A rr h)
  | .lst ds, x, r, h => by
    obtain ⟨a, xs, rfl, s, rr⟩ := Rep.lst_iff.mp r
    unfold toPy at h ⊢
    unfold PyData.canLay0 at h
    exact .lst (SqL.of (A.same _ _ s)) (dpL_of A rr h)
  | .ro ds, x, r, h => by
    obtain ⟨a, xs, rfl, s, rr⟩ := Rep.ro_iff.mp r
    unfold toPy at h ⊢
    unfold PyData.canLay0 at h
    exact .lst (A.lstF s) (dpL_of A rr h)
  | .obj C ns ds, x, r, h => by unfold toPy at h; unfold PyData.canLay0 at h; cases h
theorem dpL_of {K : PySem.W.Frag} {F H : Hp} {M : Mem} (A : MAbs K F H M) : ∀ {ds : List D} {xs : List V}, RepL K F ds xs → PyData.canLayAll0 (toPyL ds) = true → DpAll K H xs (toPyL ds)
  | [], xs, r, h => by
    rw [RepL.nil_iff.mp r]
    unfold toPyL
    exact .nil
  | d :: ds, xs, r, h => by
    obtain ⟨x, rr, rfl, r1, r2⟩ := RepL.cons_iff.mp r
    unfold toPyL at h ⊢
    unfold PyData.canLayAll0 at h
    obtain ⟨h1, h2⟩ := Bool.and_eq_true_iff.mp h
    exact .cons (dp_of A r1 h1) (dpL_of A r2 h2)
end
/-- data, not deeper than 64 -/
def Plain (d : D) : Prop := SeqAt.shaped (toPy d) = true
theorem Plain.lay {d : D} (h : Plain d) : (toPy d).canLay0 = true := SeqAt.canLay_of_shaped h
section
variable {X : Cx}
/-! ### ==, != -/
def dEq (neg : Bool) : DR2 := fun x y M Q => match x, y with
  | .v a, .v b => scal a b = true ∧ Q (.v (.bl (if neg then !decide (a = b) else decide (a = b)))) M
  | x, y => Plain x ∧ Plain y ∧ Q (.v (.bl (if neg then !PyData.eqv (toPy x) (toPy y) else PyData.eqv (toPy x) (toPy y)))) M
def rEqU (K : PySem.W.Frag) : R2 := fun x y H Q => rEq x y H Q ∨ rEqD K x y H Q
def rNeU (K : PySem.W.Frag) : R2 := fun x y H Q => rNe x y H Q ∨ rNeD K x y H Q
theorem eq_data {K : PySem.W.Frag} {F H : Hp} {M : Mem} {d e : D} {x y : V} {Q : D → Mem → Prop} {P : VK} (A : MAbs K F H M) (r1 : Rep K F d x) (r2 : Rep K F e y) (h : Plain d ∧ Plain e ∧ Q (.v (.bl (PyData.eqv (toPy d) (toPy e)))) M)
    (k : ∀ F' H' M' z v, Step F H M F' H' M' → MAbs K F' H' M' → Rep K F' z v → Q z M' → P v H') : rEqD K x y H P :=
  ⟨_, _, dp_of A r1 h.1.lay, dp_of A r2 h.2.1.lay, h.1, h.2.1, k F H M _ _ Step.refl A Rep.of_v h.2.2⟩
theorem ne_data {K : PySem.W.Frag} {F H : Hp} {M : Mem} {d e : D} {x y : V} {Q : D → Mem → Prop} {P : VK} (A : MAbs K F H M) (r1 : Rep K F d x) (r2 : Rep K F e y) (h : Plain d ∧ Plain e ∧ Q (.v (.bl (!PyData.eqv (toPy d) (toPy e)))) M)
    (k : ∀ F' H' M' z v, Step F H M F' H' M' → MAbs K F' H' M' → Rep K F' z v → Q z M' → P v H') : rNeD K x y H P :=
  ⟨_, _, dp_of A r1 h.1.lay, dp_of A r2 h.2.1.lay, h.1, h.2.1, k F H M _ _ Step.refl A Rep.of_v h.2.2⟩
theorem o_eq (hu : X.A.units + 64 < cLine) : OO X (compareOp .Eq) (rEqU X.K) (dEq false) := by
  refine ⟨OpR.or op_eq (op_eqD hu), ?_⟩
  intro F H M d e x y Q P A r1 r2 h k
  unfold dEq at h
  split at h
  · rw [Rep.v_eq r1, Rep.v_eq r2]
    exact .inl ⟨h.1, k F H M _ _ Step.refl A Rep.of_v h.2⟩
  · exact .inr (eq_data A r1 r2 h k)
theorem o_ne (hu : X.A.units + 64 < cLine) : OO X (compareOp .NotEq) (rNeU X.K) (dEq true) := by
  refine ⟨OpR.or op_ne (op_neD hu), ?_⟩
  intro F H M d e x y Q P A r1 r2 h k
  unfold dEq at h
  split at h
  · rw [Rep.v_eq r1, Rep.v_eq r2]
    exact .inl ⟨h.1, k F H M _ _ Step.refl A Rep.of_v h.2⟩
  · exact .inr (ne_data A r1 r2 h k)
/-! ### is None -/
def isNon : D → Bool
  | .v .non => true
  | _ => false
def dIsN (neg : Bool) : DR2 := fun x y M Q => match y with
  | .v .non => Q (.v (.bl (if neg then !isNon x else isNon x))) M
  | _ => False
theorem isNon_at {K : PySem.W.Frag} {F : Hp} {d : D} {x : V} (r : Rep K F d x) : decide (x = V.non) = isNon d := by
  cases d with
  | v y =>
    rw [Rep.v_eq r]
    cases y <;> rfl
  | tup ds => obtain ⟨a, xs, rfl, _⟩ := Rep.tup_iff.mp r; rfl
  | lst ds => obtain ⟨a, xs, rfl, _⟩ := Rep.lst_iff.mp r; rfl
  | ro ds => obtain ⟨a, xs, rfl, _⟩ := Rep.ro_iff.mp r; rfl
  | obj C ns ds => obtain ⟨a, dx, xs, rfl, _⟩ := Rep.obj_iff.mp r; rfl
theorem o_isN : OO X (compareOp .Is) (fun x y H Q => y = .non ∧ Q (.bl (decide (x = .non))) H) (dIsN false) := by
  refine ⟨op_isN, ?_⟩
  intro F H M d e x y Q P A r1 r2 h k
  unfold dIsN at h
  split at h
  · refine ⟨Rep.v_eq r2, ?_⟩
    rw [isNon_at r1]
    exact k F H M _ _ Step.refl A Rep.of_v h
  · exact h.elim
theorem o_notN : OO X (compareOp .IsNot) (fun x y H Q => y = .non ∧ Q (.bl (!decide (x = .non))) H) (dIsN true) := by
  refine ⟨op_notN, ?_⟩
  intro F H M d e x y Q P A r1 r2 h k
  unfold dIsN at h
  split at h
  · refine ⟨Rep.v_eq r2, ?_⟩
    rw [isNon_at r1]
    exact k F H M _ _ Step.refl A Rep.of_v h
  · exact h.elim
/-! ### in, not in -/
/-- in a list, a tuple of scalars; in a list of data; a key in a dict; a text in a text -/
def dIn (neg : Bool) : DR2 := fun x y M Q => match y with
  | .lst ds => Plain x ∧ Plain (.lst ds) ∧ Q (.v (.bl (if neg then !ds.any fun z => PyData.eqv (toPy z) (toPy x) else ds.any fun z => PyData.eqv (toPy z) (toPy x)))) M
  | .ro ds => Plain x ∧ Plain (.ro ds) ∧ Q (.v (.bl (if neg then !ds.any fun z => PyData.eqv (toPy z) (toPy x) else ds.any fun z => PyData.eqv (toPy z) (toPy x)))) M
  | .v (.ref a) => ∃ c, M a = some c ∧ match c with
    | .dct kvs => ∃ κ : Key, x = .v (kV κ) ∧ Q (.v (.bl (if neg then !(kvs.find? fun kv => decide (kv.1 = κ)).isSome else (kvs.find? fun kv => decide (kv.1 = κ)).isSome))) M
    | .lst ds => Plain x ∧ Plain (.lst ds) ∧ Q (.v (.bl (if neg then !ds.any fun z => PyData.eqv (toPy z) (toPy x) else ds.any fun z => PyData.eqv (toPy z) (toPy x)))) M
    | _ => False
  | .tup ds => ∃ (w : V) (ws : List V), x = .v w ∧ ds = ws.map D.v ∧ flatV w = true ∧ ws.all flatV = true ∧ Q (.v (.bl (if neg then !inV w ws else inV w ws))) M
  | .v (.str z) => ∃ w, x = .v (.str w) ∧ Q (.v (.bl (if neg then !(!(Builtin.Str.occurrences z w 0 z.length 1).isEmpty) else !(Builtin.Str.occurrences z w 0 z.length 1).isEmpty))) M
  | _ => False
def rDIn (neg : Bool) : R2 := fun y x H Q => ∃ a o, x = .ref a ∧ DGet H a y o ∧ Q (.bl (if neg then !o.isSome else o.isSome)) H
theorem op_dIn (hu : X.A.units + 1 < cLine) : OpR X (compareOp .In) (rDIn false) := fun pins s σ H y x u v Q I ry rx ⟨a, o, ex, g, q⟩ => by
  subst ex
  obtain rfl : v = Value.ref a := rx
  exact d_in hu I g ry fun s3 I3 => ⟨.bl o.isSome, H, I3, rfl, q⟩
theorem op_dNotIn (hu : X.A.units + 1 < cLine) : OpR X (compareOp .NotIn) (rDIn true) := fun pins s σ H y x u v Q I ry rx ⟨a, o, ex, g, q⟩ => by
  subst ex
  obtain rfl : v = Value.ref a := rx
  exact d_notIn hu I g ry fun s3 I3 => ⟨.bl (!o.isSome), H, I3, rfl, q⟩
def rInU (K : PySem.W.Frag) : R2 := fun x y H Q => ((rIn K false x y H Q ∨ rInD K x y H Q) ∨ rDIn false x y H Q) ∨ ∃ i j, x = .str i ∧ y = .str j ∧ Q (.bl (!(Builtin.Str.occurrences j i 0 j.length 1).isEmpty)) H
def rNotInU (K : PySem.W.Frag) : R2 := fun x y H Q => ((rIn K true x y H Q ∨ rNotInD K x y H Q) ∨ rDIn true x y H Q) ∨ ∃ i j, x = .str i ∧ y = .str j ∧ Q (.bl (!(!(Builtin.Str.occurrences j i 0 j.length 1).isEmpty))) H
theorem any_toPy (x : D) (ds : List D) : ((toPyL ds).any fun z => PyData.eqv z (toPy x)) = ds.any fun z => PyData.eqv (toPy z) (toPy x) := by
  rw [toPyL_map, List.any_map]
  rfl
theorem dget_of {K : PySem.W.Frag} {F H : Hp} {a : Addr} {kvs : List (Key × D)} {ks : List (Key × V)} {κ : Key} (s : H a = some (.dK ks)) (rr : RepP K F kvs ks) : ∃ o, DGet H a (kV κ) o ∧ o.isSome = (kvs.find? fun kv => decide (kv.1 = κ)).isSome ∧ ∀ p, (kvs.find? fun kv => decide (kv.1 = κ)) = some p → ∃ v, o = some v ∧ Rep K F p.2 v := by
  refine ⟨valV ks κ, DGet.k s, ?_, fun p hp => find_some rr hp⟩
  cases e : kvs.find? fun kv => decide (kv.1 = κ) with
  | none => rw [find_none rr e]; rfl
  | some p => obtain ⟨v, e1, _⟩ := find_some rr e; rw [e1]; rfl
theorem lift_in {K : PySem.W.Frag} : LiftR2 K (rInU K) (dIn false) := by
  intro F H M d e x y Q P A r1 r2 h k
  have lst : ∀ (ds : List D) (a : Addr) (ys : List V), SqL K H a ys → RepL K F ds ys → Plain d → SeqAt.shaped (.list (toPyL ds)) = true → Q (.v (.bl (ds.any fun z => PyData.eqv (toPy z) (toPy d)))) M → rInD K x (.ref a) H P := fun ds a ys s rr p1 p2 q => by
    refine ⟨_, _, dp_of A r1 p1.lay, .lst s (dpL_of A rr (by have := SeqAt.canLay_of_shaped p2; unfold PyData.canLay0 at this; exact this)), p1, p2, ?_⟩
    rw [any_toPy]
    exact k F H M _ _ Step.refl A Rep.of_v q
  unfold dIn at h
  split at h
  · rename_i ds
    obtain ⟨a, ys, rfl, s, rr⟩ := Rep.lst_iff.mp r2
    exact .inl (.inl (.inr (lst ds a ys (SqL.of (A.same _ _ s)) rr h.1 (by have := h.2.1; unfold Plain toPy at this; exact this) h.2.2)))
  · rename_i ds
    obtain ⟨a, ys, rfl, s, rr⟩ := Rep.ro_iff.mp r2
    exact .inl (.inl (.inr (lst ds a ys (A.lstF s) rr h.1 (by have := h.2.1; unfold Plain toPy at this; exact this) h.2.2)))
  · rename_i a
    rw [Rep.v_eq r2]
    obtain ⟨c, hc, h⟩ := h
    cases c with
    | dct kvs =>
      obtain ⟨κ, ex, q⟩ := h
      subst ex
      rw [Rep.v_eq r1]
      obtain ⟨ks, s, rr⟩ := (A.mem _ _ hc).2
      obtain ⟨o, g, eo, _⟩ := dget_of (κ := κ) s rr
      refine .inl (.inr ⟨a, o, rfl, g, ?_⟩)
      have q' : Q (.v (.bl (kvs.find? fun kv => decide (kv.1 = κ)).isSome)) M := q
      rw [← eo] at q'
      exact k F H M _ _ Step.refl A Rep.of_v q'
    | lst ds =>
      obtain ⟨ys, s, rr⟩ := (A.mem _ _ hc).2
      exact .inl (.inl (.inr (lst ds a ys (SqL.of s) rr h.1 (by have := h.2.1; unfold Plain toPy at this; exact this) h.2.2)))
    | obj C ns zs => exact h.elim
  · obtain ⟨w, ws, rfl, rfl, f1, f2, q⟩ := h
    rw [Rep.v_eq r1]
    obtain ⟨a, ys, rfl, s, rr⟩ := Rep.tup_iff.mp r2
    rw [RepL.vs rr] at s
    exact .inl (.inl (.inl ⟨a, ws, rfl, .inr (A.tupF s), f1, f2, k F H M _ _ Step.refl A Rep.of_v q⟩))
  · obtain ⟨w, rfl, q⟩ := h
    rw [Rep.v_eq r1, Rep.v_eq r2]
    exact .inr ⟨w, _, rfl, rfl, k F H M _ _ Step.refl A Rep.of_v q⟩
  · exact h.elim
theorem lift_notIn {K : PySem.W.Frag} : LiftR2 K (rNotInU K) (dIn true) := by
  intro F H M d e x y Q P A r1 r2 h k
  have lst : ∀ (ds : List D) (a : Addr) (ys : List V), SqL K H a ys → RepL K F ds ys → Plain d → SeqAt.shaped (.list (toPyL ds)) = true → Q (.v (.bl (!ds.any fun z => PyData.eqv (toPy z) (toPy d)))) M → rNotInD K x (.ref a) H P := fun ds a ys s rr p1 p2 q => by
    refine ⟨_, _, dp_of A r1 p1.lay, .lst s (dpL_of A rr (by have := SeqAt.canLay_of_shaped p2; unfold PyData.canLay0 at this; exact this)), p1, p2, ?_⟩
    rw [any_toPy]
    exact k F H M _ _ Step.refl A Rep.of_v q
  unfold dIn at h
  split at h
  · rename_i ds
    obtain ⟨a, ys, rfl, s, rr⟩ := Rep.lst_iff.mp r2
    exact .inl (.inl (.inr (lst ds a ys (SqL.of (A.same _ _ s)) rr h.1 (by have := h.2.1; unfold Plain toPy at this; exact this) h.2.2)))
  · rename_i ds
    obtain ⟨a, ys, rfl, s, rr⟩ := Rep.ro_iff.mp r2
    exact .inl (.inl (.inr (lst ds a ys (A.lstF s) rr h.1 (by have := h.2.1; unfold Plain toPy at this; exact this) h.2.2)))
  · rename_i a
    rw [Rep.v_eq r2]
    obtain ⟨c, hc, h⟩ := h
    cases c with
    | dct kvs =>
      obtain ⟨κ, ex, q⟩ := h
      subst ex
      rw [Rep.v_eq r1]
      obtain ⟨ks, s, rr⟩ := (A.mem _ _ hc).2
      obtain ⟨o, g, eo, _⟩ := dget_of (κ := κ) s rr
      refine .inl (.inr ⟨a, o, rfl, g, ?_⟩)
      have q' : Q (.v (.bl (!(kvs.find? fun kv => decide (kv.1 = κ)).isSome))) M := q
      rw [← eo] at q'
      exact k F H M _ _ Step.refl A Rep.of_v q'
    | lst ds =>
      obtain ⟨ys, s, rr⟩ := (A.mem _ _ hc).2
      exact .inl (.inl (.inr (lst ds a ys (SqL.of s) rr h.1 (by have := h.2.1; unfold Plain toPy at this; exact this) h.2.2)))
    | obj C ns zs => exact h.elim
  · obtain ⟨w, ws, rfl, rfl, f1, f2, q⟩ := h
    rw [Rep.v_eq r1]
    obtain ⟨a, ys, rfl, s, rr⟩ := Rep.tup_iff.mp r2
    rw [RepL.vs rr] at s
    exact .inl (.inl (.inl ⟨a, ws, rfl, .inr (A.tupF s), f1, f2, k F H M _ _ Step.refl A Rep.of_v q⟩))
  · obtain ⟨w, rfl, q⟩ := h
    rw [Rep.v_eq r1, Rep.v_eq r2]
    exact .inr ⟨w, _, rfl, rfl, k F H M _ _ Step.refl A Rep.of_v q⟩
  · exact h.elim
theorem hu1_of {n : Nat} (h : n + 64 < cLine) : n + 1 < cLine := by omega
theorem o_in (hu : X.A.units + 65 < cLine) : OO X (compareOp .In) (rInU X.K) (dIn false) :=
  ⟨OpR.or (OpR.or (OpR.or op_in_seq (op_inD hu)) (op_dIn (by omega))) op_in_str, lift_in⟩
theorem o_notIn (hu : X.A.units + 65 < cLine) : OO X (compareOp .NotIn) (rNotInU X.K) (dIn true) :=
  ⟨OpR.or (OpR.or (OpR.or op_notIn_seq (op_notInD hu)) (op_dNotIn (by omega))) op_notin_str, lift_notIn⟩
end
end DS

set_option Elab.async false
set_option linter.all false
set_option maxRecDepth 100000
set_option maxHeartbeats 2000000
/-! DS7: +, slices, sums, sorts; lists and dicts changed. -/
namespace DS
open PySem PySem.Spec PyProof.Rows L2
section
variable {X : Cx}
/-! ### + -/
/-- the items of a list that stands tracked: frozen, or a cell -/
def trkOf (M : Mem) : D → Option (List D)
  | .lst xs => some xs
  | .v (.ref a) => match M a with
    | some (.lst xs) => some xs
    | _ => none
  | _ => none
theorem trkOf_cell {M : Mem} {a : Addr} {zs : List D} (h : M a = some (.lst zs)) : trkOf M (.v (.ref a)) = some zs := by
  show (match M a with
    | some (.lst xs) => some xs
    | _ => none) = some zs
  rw [h]
theorem trkOf_at {K : PySem.W.Frag} {F H : Hp} {M : Mem} {d : D} {x : V} {ds : List D} (A : MAbs K F H M) (r : Rep K F d x) (h : trkOf M d = some ds) : ∃ a xs, x = .ref a ∧ H a = some (.lst xs) ∧ RepL K F ds xs := by
  cases d with
  | v y =>
    cases y with
    | ref a =>
      have e := Rep.v_eq r
      subst e
      have h : (match M a with
        | some (.lst xs) => some xs
        | _ => none) = some ds := h
      cases q : M a with
      | none =>
        rw [q] at h
        cases h
      | some c =>
        rw [q] at h
        cases c with
        | lst zs =>
          cases h
          obtain ⟨xs, e, rr⟩ := (A.mem a _ q).2
          exact ⟨a, xs, rfl, e, rr⟩
        | _ => cases h
    | _ => cases h
  | lst zs =>
    cases h
    obtain ⟨a, xs, e, f, rr⟩ := Rep.lst_iff.mp r
    exact ⟨a, xs, e, A.same _ _ f, rr⟩
  | _ => cases h
def dAdd : DR2 := fun x y M Q => match x, y with
  | .v (.int i), .v (.int j) => Q (.v (.int (i + j))) M
  | .v (.str i), .v (.str j) => i.length + j.length ≤ sizeLine ∧ Q (.v (.str (i ++ j))) M
  | .tup a, .tup b => a ≠ [] ∧ b ≠ [] ∧ a.length + b.length ≤ sizeLine ∧ Q (.tup (a ++ b)) M
  | x, y => ∃ a b, trkOf M x = some a ∧ trkOf M y = some b ∧ a.length + b.length ≤ sizeLine ∧ Q (.lst (a ++ b)) M
/-- the sum of two lists, a cell -/
def dAddC : DR2 := fun x y M Q => ∃ a b, trkOf M x = some a ∧ trkOf M y = some b ∧ a.length + b.length ≤ sizeLine ∧ ∀ p, M p = none → Q (.v (.ref p)) (updM M p (.lst (a ++ b)))
def rAddU (K : PySem.W.Frag) : R2 := fun x y H Q => ((rI0 (fun i j => .int (i + j)) x y H Q ∨ ∃ i j, x = .str i ∧ y = .str j ∧ i.length + j.length ≤ sizeLine ∧ Q (.str (i ++ j)) H) ∨ rCatT K x y H Q) ∨ rCat x y H Q
theorem lift_add {K : PySem.W.Frag} : LiftR2 K (rAddU K) dAdd := by
  intro F H M d e x y Q P A r1 r2 h k
  unfold dAdd at h
  split at h
  · rw [Rep.v_eq r1, Rep.v_eq r2]
    exact .inl (.inl (.inl ⟨_, _, rfl, rfl, k F H M _ _ Step.refl A Rep.of_v h⟩))
  · rw [Rep.v_eq r1, Rep.v_eq r2]
    exact .inl (.inl (.inr ⟨_, _, rfl, rfl, h.1, k F H M _ _ Step.refl A Rep.of_v h.2⟩))
  · obtain ⟨a, xs, rfl, sa, ra⟩ := Rep.tup_iff.mp r1
    obtain ⟨b, ys, rfl, sb, rb⟩ := Rep.tup_iff.mp r2
    refine .inl (.inr ⟨a, b, xs, ys, rfl, rfl, A.tupF sa, A.tupF sb, fun z => h.1 ?_, by rw [← ra.length, ← rb.length]; exact h.2.2.1, fun z => absurd ?_ h.2.1, fun _ p hp => ?_⟩)
    · have := ra.length
      rw [z] at this
      exact List.eq_nil_of_length_eq_zero this
    · have := rb.length
      rw [z] at this
      exact List.eq_nil_of_length_eq_zero this
    · obtain ⟨s2, a2⟩ := A.froz (o := .tup (xs ++ ys)) hp
      exact k _ _ M _ _ s2 a2 (Rep.tup_iff.mpr ⟨p, _, rfl, .inl (.inl upd_same), (ra.append rb).mono s2.grow⟩) h.2.2.2
  · obtain ⟨a, b, ea, eb, hl, q⟩ := h
    obtain ⟨p1, xs, rfl, sa, ra⟩ := trkOf_at A r1 ea
    obtain ⟨p2, ys, rfl, sb, rb⟩ := trkOf_at A r2 eb
    refine .inr ⟨p1, p2, xs, ys, rfl, rfl, sa, sb, by rw [← ra.length, ← rb.length]; exact hl, fun p hp => ?_⟩
    obtain ⟨s2, a2⟩ := A.froz (o := .lst (xs ++ ys)) hp
    exact k _ _ M _ _ s2 a2 (Rep.lst_iff.mpr ⟨p, _, rfl, upd_same, (ra.append rb).mono s2.grow⟩) q
theorem o_add : OO X (binaryOp .Add) (rAddU X.K) dAdd := ⟨OpR.or (OpR.or (OpR.or op_add op_add_str) op_catT) op_cat, lift_add⟩
theorem o_addC : OO X (binaryOp .Add) rCat dAddC := ⟨op_cat, by
  intro F H M d e x y Q P A r1 r2 h k
  obtain ⟨a, b, ea, eb, hl, q⟩ := h
  obtain ⟨p1, xs, rfl, sa, ra⟩ := trkOf_at A r1 ea
  obtain ⟨p2, ys, rfl, sb, rb⟩ := trkOf_at A r2 eb
  refine ⟨p1, p2, xs, ys, rfl, rfl, sa, sb, by rw [← ra.length, ← rb.length]; exact hl, fun p hp => ?_⟩
  obtain ⟨s2, a2⟩ := A.cell (o := .lst (xs ++ ys)) (c := .lst (a ++ b)) hp ⟨_, upd_same, ra.append rb⟩
  exact k _ _ _ _ _ s2 a2 Rep.of_v (q p (A.free hp).2)⟩
/-! ### slices -/
abbrev DTO := DEnv → Mem → (Option Int → DEnv → Mem → Prop) → Prop
def LiftO (K : PySem.W.Frag) (t : TO) (d : DTO) : Prop := ∀ (F : Hp) (σ : L2.St) (H : Hp) (E : DEnv) (M : Mem) (Q : Option Int → DEnv → Mem → Prop) (P : Option Int → Hp → Prop), Abs K F σ H E M → d E M Q →
  (∀ F' H' E' M' o, Step F H M F' H' M' → Abs K F' σ H' E' M' → Q o E' M' → P o H') → t σ H P
structure PP (X : Cx) (e : Option Expr) (t : TO) (d : DTO) : Prop where
  p : PO X e t
  l : LiftO X.K t d
def dNoPart : DTO := fun E M Q => Q none E M
def dPart (d : DTE) : DTO := fun E M Q => d E M fun x E1 M1 => match x with
  | .v (.int i) => Q (some i) E1 M1
  | _ => False
theorem p_none : PP X none tNoPart dNoPart := ⟨po_none, fun F σ H E M Q P A h k => k F H E M none Step.refl A h⟩
theorem p_some {e : Expr} {t : TE} {d : DTE} (hh : EE X e t d) : PP X (some e) (tPart t) (dPart d) := ⟨po_some hh.p, fun F σ H E M Q P A h k => by
  refine hh.l F σ H E M _ _ A h fun F1 H1 E1 M1 x v s1 A1 r1 h1 => ?_
  split at h1
  · exact ⟨_, Rep.v_eq r1, k F1 H1 E1 M1 _ s1 A1 h1⟩
  · exact h1.elim⟩
/-- a part of a row, by the ends' numbers (below nought: counted from the end) -/
def cutD (xs : List D) (lo hi : Option Int) : List D := (xs.drop (HT.sIx xs.length 0 lo)).take (HT.sIx xs.length xs.length hi - HT.sIx xs.length 0 lo)
theorem cutD_at {K : PySem.W.Frag} {F : Hp} {ds : List D} {xs : List V} (r : RepL K F ds xs) (lo hi : Option Int) : RepL K F (cutD ds lo hi) (cutV xs lo hi) := by
  unfold cutD cutV
  rw [r.length]
  exact (r.drop _).take _
abbrev DSl := D → Option Int → Option Int → Mem → (D → Mem → Prop) → Prop
/-- a slice of a list (a new one, frozen), of a tuple (not the whole of it), of a text -/
def dSl : DSl := fun x lo hi M Q => match x with
  | .v (.str z) => z.length ≤ sizeLine ∧ Q (.v (.str (cutS z lo hi))) M
  | .tup ds => ¬ (HT.sIx ds.length 0 lo = 0 ∧ HT.sIx ds.length ds.length hi = ds.length) ∧ Q (.tup (cutD ds lo hi)) M
  | x => ∃ ds, lstOf M x = some ds ∧ Q (.lst (cutD ds lo hi)) M
def dSlC : DSl := fun x lo hi M Q => ∃ ds, lstOf M x = some ds ∧ ∀ p, M p = none → Q (.v (.ref p)) (updM M p (.lst (cutD ds lo hi)))
def rSlU (K : PySem.W.Frag) : V → Option Int → Option Int → Hp → VK → Prop := fun x lo hi H Q => (rSlS x lo hi H Q ∨ rSlT K x lo hi H Q) ∨ rSlL K x lo hi H Q
def dSlice (r : DSl) (de : DTE) (dl dh : DTO) : DTE := fun E M Q => de E M fun x E1 M1 => dl E1 M1 fun l E2 M2 => dh E2 M2 fun u E3 M3 => r x l u M3 fun z M4 => Q z E3 M4
def LiftSl (K : PySem.W.Frag) (r : V → Option Int → Option Int → Hp → VK → Prop) (dr : DSl) : Prop := ∀ (F H : Hp) (M : Mem) (d : D) (x : V) (lo hi : Option Int) (Q : D → Mem → Prop) (P : VK), MAbs K F H M → Rep K F d x → dr d lo hi M Q →
  (∀ F' H' M' z v, Step F H M F' H' M' → MAbs K F' H' M' → Rep K F' z v → Q z M' → P v H') → r x lo hi H P
theorem lift_sl {K : PySem.W.Frag} : LiftSl K (rSlU K) dSl := by
  intro F H M d x lo hi Q P A r h k
  unfold dSl at h
  split at h
  · rw [Rep.v_eq r]
    exact .inl (.inl ⟨_, rfl, h.1, k F H M _ _ Step.refl A Rep.of_v h.2⟩)
  · obtain ⟨a, xs, rfl, s, rr⟩ := Rep.tup_iff.mp r
    refine .inl (.inr ⟨a, xs, rfl, A.tupF s, by rw [← rr.length]; exact h.1, fun p hp => ?_⟩)
    obtain ⟨s2, a2⟩ := A.froz (o := .tup (cutV xs lo hi)) hp
    exact k _ _ M _ _ s2 a2 (Rep.tup_iff.mpr ⟨p, _, rfl, .inl (.inl upd_same), (cutD_at rr lo hi).mono s2.grow⟩) h.2
  · obtain ⟨ds, e, q⟩ := h
    obtain ⟨a, xs, rfl, s, rr⟩ := lstOf_at A r e
    refine .inr ⟨a, xs, rfl, s, fun p hp => ?_⟩
    obtain ⟨s2, a2⟩ := A.froz (o := .lst (cutV xs lo hi)) hp
    exact k _ _ M _ _ s2 a2 (Rep.lst_iff.mpr ⟨p, _, rfl, upd_same, (cutD_at rr lo hi).mono s2.grow⟩) q
theorem lift_slC {K : PySem.W.Frag} : LiftSl K (rSlL K) dSlC := by
  intro F H M d x lo hi Q P A r h k
  obtain ⟨ds, e, q⟩ := h
  obtain ⟨a, xs, rfl, s, rr⟩ := lstOf_at A r e
  refine ⟨a, xs, rfl, s, fun p hp => ?_⟩
  obtain ⟨s2, a2⟩ := A.cell (o := .lst (cutV xs lo hi)) (c := .lst (cutD ds lo hi)) hp ⟨_, upd_same, cutD_at rr lo hi⟩
  exact k _ _ _ _ _ s2 a2 Rep.of_v (q p (A.free hp).2)
theorem lift_slice {K : PySem.W.Frag} {r : V → Option Int → Option Int → Hp → VK → Prop} {dr : DSl} {te : TE} {de : DTE} {tl th : TO} {dl dh : DTO} (lr : LiftSl K r dr) (le : LiftE K te de) (ll : LiftO K tl dl) (lh : LiftO K th dh) : LiftE K (tSl r te tl th) (dSlice dr de dl dh) := by
  intro F σ H E M Q P A h k
  refine le F σ H E M _ _ A h fun F1 H1 E1 M1 x v s1 A1 r1 h1 => ?_
  refine ll F1 σ H1 E1 M1 _ _ A1 h1 fun F2 H2 E2 M2 l s2 A2 h2 => ?_
  refine lh F2 σ H2 E2 M2 _ _ A2 h2 fun F3 H3 E3 M3 u s3 A3 h3 => ?_
  refine lr F3 H3 M3 x v l u _ _ A3.m (r1.mono (s2.trans s3).grow) h3 fun F4 H4 M4 z w s4 A4 r4 h4 => ?_
  exact k F4 H4 E3 M4 z w (((s1.trans s2).trans s3).trans s4) ⟨A4, A3.e.mono s4.grow⟩ r4 h4
theorem e_slice {e : Expr} {te : TE} {de : DTE} {lo hi : Option Expr} {tl th : TO} {dl dh : DTO} {pos p2 : Pos} (he : EE X e te de) (hl : PP X lo tl dl) (hh : PP X hi th dh) : EE X (.Subscript e (.Slice lo hi none p2) pos) (tSl (rSlU X.K) te tl th) (dSlice dSl de dl dh) :=
  ⟨pe_slice (r := rSlU X.K) (SlR.or (SlR.or sl_str sl_tup) sl_list) he.p hl.p hh.p, lift_slice lift_sl he.l hl.l hh.l⟩
theorem e_sliceC {e : Expr} {te : TE} {de : DTE} {lo hi : Option Expr} {tl th : TO} {dl dh : DTO} {pos p2 : Pos} (he : EE X e te de) (hl : PP X lo tl dl) (hh : PP X hi th dh) : EE X (.Subscript e (.Slice lo hi none p2) pos) (tSl (rSlL X.K) te tl th) (dSlice dSlC de dl dh) :=
  ⟨pe_slice sl_list he.p hl.p hh.p, lift_slice lift_slC he.l hl.l hh.l⟩
/-! ### list(x), sum, any, all, max -/
/-- a row's items: a list's, a tuple's -/
def itemsOf (M : Mem) : D → Option (List D)
  | .tup xs => some xs
  | x => lstOf M x
theorem itemsOf_at {K : PySem.W.Frag} {F H : Hp} {M : Mem} {d : D} {x : V} {ds : List D} (A : MAbs K F H M) (r : Rep K F d x) (h : itemsOf M d = some ds) : ∃ a xs, x = .ref a ∧ (SqL K H a xs ∨ SqT K H a xs) ∧ RepL K F ds xs := by
  unfold itemsOf at h
  split at h
  · cases h
    obtain ⟨a, xs, e, s, rr⟩ := Rep.tup_iff.mp r
    exact ⟨a, xs, e, .inr (A.tupF s), rr⟩
  · obtain ⟨a, xs, e, s, rr⟩ := lstOf_at A r h
    exact ⟨a, xs, e, .inl s, rr⟩
def dListOf : DRL := fun xs M Q => match xs with
  | [x] => ∃ ds, itemsOf M x = some ds ∧ Q (.lst ds) M
  | _ => False
def dListOfC : DRL := fun xs M Q => match xs with
  | [x] => ∃ ds, itemsOf M x = some ds ∧ ∀ p, M p = none → Q (.v (.ref p)) (updM M p (.lst ds))
  | _ => False
def rListOf (K : PySem.W.Frag) : List V → Hp → VK → Prop := fun xs H Q => ∃ p ys, xs = [.ref p] ∧ (SqL K H p ys ∨ SqT K H p ys) ∧ ∀ l, H l = none → Q (.ref l) (upd H l (.lst ys))
theorem c_list : CB X (.type "list") (rListOf X.K) dListOf := by
  refine ⟨call_list_of, ?_⟩
  intro F H M ds xs Q P A r h k
  unfold dListOf at h
  split at h
  · obtain ⟨x, rfl, q⟩ := r.one
    obtain ⟨zs, e, h⟩ := h
    obtain ⟨a, ys, rfl, s, rr⟩ := itemsOf_at A q e
    refine ⟨a, ys, rfl, s, fun p hp => ?_⟩
    obtain ⟨s2, a2⟩ := A.froz (o := .lst ys) hp
    exact k _ _ M _ _ s2 a2 (Rep.lst_iff.mpr ⟨p, _, rfl, upd_same, rr.mono s2.grow⟩) h
  · exact h.elim
theorem c_listC : CB X (.type "list") (rListOf X.K) dListOfC := by
  refine ⟨call_list_of, ?_⟩
  intro F H M ds xs Q P A r h k
  unfold dListOfC at h
  split at h
  · obtain ⟨x, rfl, q⟩ := r.one
    obtain ⟨zs, e, h⟩ := h
    obtain ⟨a, ys, rfl, s, rr⟩ := itemsOf_at A q e
    refine ⟨a, ys, rfl, s, fun p hp => ?_⟩
    obtain ⟨s2, a2⟩ := A.cell (o := .lst ys) (c := .lst zs) hp ⟨_, upd_same, rr⟩
    exact k _ _ _ _ _ s2 a2 Rep.of_v (h p (A.free hp).2)
  · exact h.elim
def intsD (ns : List Int) : List D := ns.map fun n => D.v (.int n)
theorem intsD_at {K : PySem.W.Frag} {F : Hp} {ns : List Int} {xs : List V} (r : RepL K F (intsD ns) xs) : xs = ns.map V.int := by
  have e : intsD ns = (ns.map V.int).map D.v := by unfold intsD; rw [List.map_map]; rfl
  rw [e] at r
  exact RepL.vs r
def dSum : DRL := fun xs M Q => match xs with
  | [x] => ∃ ns : List Int, lstOf M x = some (intsD ns) ∧ Q (.v (.int ns.sum)) M
  | _ => False
theorem c_sum (hc : X.calm = true) : CB X (.builtin "sum") (rSum X.K) dSum := by
  refine ⟨cr_sum hc, ?_⟩
  intro F H M ds xs Q P A r h k
  unfold dSum at h
  split at h
  · obtain ⟨x, rfl, q⟩ := r.one
    obtain ⟨ns, e, h⟩ := h
    obtain ⟨a, ys, rfl, s, rr⟩ := lstOf_at A q e
    rw [intsD_at rr] at s
    exact ⟨a, ns, rfl, s, k F H M _ _ Step.refl A Rep.of_v h⟩
  · exact h.elim
def boolsD (ns : List Bool) : List D := ns.map fun n => D.v (.bl n)
theorem boolsD_at {K : PySem.W.Frag} {F : Hp} {ns : List Bool} {xs : List V} (r : RepL K F (boolsD ns) xs) : xs = ns.map V.bl := by
  have e : boolsD ns = (ns.map V.bl).map D.v := by unfold boolsD; rw [List.map_map]; rfl
  rw [e] at r
  exact RepL.vs r
def dAny : DRL := fun xs M Q => match xs with
  | [x] => ∃ bs : List Bool, lstOf M x = some (boolsD bs) ∧ Q (.v (.bl (bs.any id))) M
  | _ => False
def dAll : DRL := fun xs M Q => match xs with
  | [x] => ∃ bs : List Bool, lstOf M x = some (boolsD bs) ∧ Q (.v (.bl (bs.all id))) M
  | _ => False
theorem c_any (hc : X.calm = true) : CB X (.builtin "any") (rAny X.K) dAny := by
  refine ⟨cr_any hc, ?_⟩
  intro F H M ds xs Q P A r h k
  unfold dAny at h
  split at h
  · obtain ⟨x, rfl, q⟩ := r.one
    obtain ⟨ns, e, h⟩ := h
    obtain ⟨a, ys, rfl, s, rr⟩ := lstOf_at A q e
    rw [boolsD_at rr] at s
    exact ⟨a, ns, rfl, s, k F H M _ _ Step.refl A Rep.of_v h⟩
  · exact h.elim
theorem c_all (hc : X.calm = true) : CB X (.builtin "all") (rAll X.K) dAll := by
  refine ⟨cr_all hc, ?_⟩
  intro F H M ds xs Q P A r h k
  unfold dAll at h
  split at h
  · obtain ⟨x, rfl, q⟩ := r.one
    obtain ⟨ns, e, h⟩ := h
    obtain ⟨a, ys, rfl, s, rr⟩ := lstOf_at A q e
    rw [boolsD_at rr] at s
    exact ⟨a, ns, rfl, s, k F H M _ _ Step.refl A Rep.of_v h⟩
  · exact h.elim
/-! ### sorted -/
def leD : D → D → Bool := PySem.W.dataLe false toPy
def rSortD (K : PySem.W.Frag) : List V → Hp → VK → Prop := fun vs H Q => ∃ (a : Addr) (L : List (V × PyData)), vs = [V.ref a] ∧ SqL K H a (L.map (·.1)) ∧ (∀ p ∈ L, Dp K H p.1 p.2) ∧ PySem.W.AllAlike (L.map (·.2)) ∧ PySem.W.Sortable (L.map (·.2)) ∧ (∀ p ∈ L, p.2.depth ≤ 60) ∧
  ∀ p, H p = none → Q (.ref p) (upd H p (.lst ((L.mergeSort (PySem.W.dataLe false (·.2))).map (·.1))))
theorem each_vals {L : List (V × PyData)} : ∀ {us : List Value}, Vals (L.map (·.1)) us → PySem.W.EachIs (fun (v : Value) (b : V × PyData) => RelV b.1 v) us L := by
  induction L with
  | nil =>
    intro us r
    rw [List.map_nil] at r
    cases r
    exact .nil
  | cons p L ih =>
    intro us r
    rw [List.map_cons] at r
    cases r with
    | cons r1 r2 => exact .cons r1 (ih r2)
theorem vals_each {L : List (V × PyData)} : ∀ {us : List Value}, PySem.W.EachIs (fun (v : Value) (b : V × PyData) => RelV b.1 v) us L → Vals (L.map (·.1)) us := by
  induction L with
  | nil =>
    intro us r
    cases r
    exact .nil
  | cons p L ih =>
    intro us r
    cases r with
    | cons r1 r2 => exact .cons r1 (ih r2)
theorem cr_sortD (hu : X.A.units + 64 < cLine) : CallR X (.builtin "sorted") (rSortD X.K) := by
  intro pins s σ H vs us Q I r h
  obtain ⟨a, L, rfl, hs, hdp, hal, hso, hdep, q⟩ := h
  obtain ⟨its, rv, hl, hz⟩ := I.list hs
  rw [Vals.ref1 r]
  have e := each_vals rv
  have er : PySem.W.EachIs (fun (v : Value) (b : V × PyData) => ∃ as, Reads s.heap v b.2 as) its L := by
    have := PySem.W.each_mem e
    refine this.mono fun v b hb => ?_
    exact Dp.reads I b.2 b.1 v (hdp b hb.2) hb.1
  refine PySem.W.sorted_data (enc := fun b : V × PyData => b.2) hl.isList e er hal hso (by rw [List.length_map] at hz; exact hz) (fun b hb => by have := hdep b hb; omega) fun out ho eo => ?_
  obtain ⟨ep, he'⟩ := PyProof.Rows.sortedAll_at s.heap its out.toArray
  have rr := vals_each eo
  have hlen : ((L.mergeSort (PySem.W.dataLe false (·.2))).map (·.1)).length ≤ sizeLine := by
    rw [List.length_map, List.length_mergeSort]
    rw [List.length_map] at hz
    exact hz
  exact ⟨.ref _, upd H (s.heap.objs.size + 1) (.lst ((L.mergeSort (PySem.W.dataLe false (·.2))).map (·.1))), I.laid (t' := s.toks) (fun _ _ => PyProof.Rows.sortedAll_old) (Nat.le_succ _) ⟨hlen, out, ep, rr, he'⟩, rfl, q _ (I.hok.fresh (Nat.le_succ _))⟩
def SortOk (ds : List D) : Prop := (∀ d ∈ ds, (toPy d).canLay0 = true ∧ (toPy d).depth ≤ 60) ∧ PySem.W.AllAlike (ds.map toPy) ∧ PySem.W.Sortable (ds.map toPy)
def dSorted : DRL := fun xs M Q => match xs with
  | [x] => ∃ ds, lstOf M x = some ds ∧ SortOk ds ∧ Q (.lst (ds.mergeSort leD)) M
  | _ => False
def dSortedC : DRL := fun xs M Q => match xs with
  | [x] => ∃ ds, lstOf M x = some ds ∧ SortOk ds ∧ ∀ p, M p = none → Q (.v (.ref p)) (updM M p (.lst (ds.mergeSort leD)))
  | _ => False
theorem sort_at {K : PySem.W.Frag} {F H : Hp} {M : Mem} {d : D} {x : V} {ds : List D} {P : VK} (A : MAbs K F H M) (r : Rep K F d x) (e : lstOf M d = some ds) (so : SortOk ds)
    (k : ∀ ys p, H p = none → RepL K F (ds.mergeSort leD) ys → P (.ref p) (upd H p (.lst ys))) : rSortD K [x] H P := by
  obtain ⟨a, ys, rfl, s, rr⟩ := lstOf_at A r e
  obtain ⟨s1, s2, s3⟩ := so
  -- the pairs of value and data
  have hz : ∀ {ds : List D} {ys : List V}, RepL K F ds ys → (ys.zip ds).map (·.1) = ys ∧ (ys.zip ds).map (·.2) = ds ∧ ∀ p ∈ ys.zip ds, Rep K F p.2 p.1 := by
    intro ds
    induction ds with
    | nil =>
      intro ys h
      rw [RepL.nil_iff.mp h]
      exact ⟨rfl, rfl, fun p hp => nomatch hp⟩
    | cons d ds ih =>
      intro ys h
      obtain ⟨y, r, rfl, h1, h2⟩ := RepL.cons_iff.mp h
      obtain ⟨i1, i2, i3⟩ := ih h2
      refine ⟨by rw [List.zip_cons_cons, List.map_cons, i1], by rw [List.zip_cons_cons, List.map_cons, i2], fun p hp => ?_⟩
      rcases List.mem_cons.mp hp with z | z
      · rw [z]; exact h1
      · exact i3 p z
  obtain ⟨z1, z2, z3⟩ := hz rr
  let f : V × D → V × PyData := fun p => (p.1, toPy p.2)
  have m1 : ((ys.zip ds).map f).map (·.1) = ys := by rw [List.map_map]; exact z1
  have m2 : ((ys.zip ds).map f).map (·.2) = ds.map toPy := by
    rw [List.map_map]
    conv => rhs; rw [← z2]
    rw [List.map_map]
    rfl
  refine ⟨a, (ys.zip ds).map f, rfl, by rw [m1]; exact s, fun p hp => ?_, by rw [m2]; exact s2, by rw [m2]; exact s3, fun p hp => ?_, fun p hp => ?_⟩
  · obtain ⟨q, hq, rfl⟩ := List.mem_map.mp hp
    have hd : q.2 ∈ ds := by rw [← z2]; exact List.mem_map.mpr ⟨q, hq, rfl⟩
    exact dp_of A (z3 q hq) (s1 _ hd).1
  · obtain ⟨q, hq, rfl⟩ := List.mem_map.mp hp
    have hd : q.2 ∈ ds := by rw [← z2]; exact List.mem_map.mpr ⟨q, hq, rfl⟩
    exact (s1 _ hd).2
  · have e1 : ((ys.zip ds).map f).mergeSort (PySem.W.dataLe false (·.2)) = ((ys.zip ds).mergeSort fun p q => leD p.2 q.2).map f := by
      rw [List.map_mergeSort]
      intro a _ b _
      rfl
    have e2 : ds.mergeSort leD = ((ys.zip ds).mergeSort fun p q => leD p.2 q.2).map (·.2) := by
      rw [List.map_mergeSort (s := leD), z2]
      intro a _ b _
      rfl
    rw [e1, List.map_map]
    refine k _ p hp ?_
    rw [e2]
    have all : ∀ {L : List (V × D)}, (∀ p ∈ L, Rep K F p.2 p.1) → RepL K F (L.map (·.2)) (L.map ((fun p : V × PyData => p.1) ∘ f)) := by
      intro L
      induction L with
      | nil => intro _; exact RepL.nil
      | cons q L ih =>
        intro h
        exact .cons (h q List.mem_cons_self) (ih fun p hp => h p (List.mem_cons_of_mem _ hp))
    exact all fun q hq => z3 q (List.mem_mergeSort.mp hq)
theorem c_sorted (hu : X.A.units + 64 < cLine) : CB X (.builtin "sorted") (rSortD X.K) dSorted := by
  refine ⟨cr_sortD hu, ?_⟩
  intro F H M ds xs Q P A r h k
  unfold dSorted at h
  split at h
  · obtain ⟨x, rfl, q⟩ := r.one
    obtain ⟨zs, e, so, h⟩ := h
    refine sort_at A q e so fun ys p hp rr => ?_
    obtain ⟨s2, a2⟩ := A.froz (o := .lst ys) hp
    exact k _ _ M _ _ s2 a2 (Rep.lst_iff.mpr ⟨p, _, rfl, upd_same, rr.mono s2.grow⟩) h
  · exact h.elim
theorem c_sortedC (hu : X.A.units + 64 < cLine) : CB X (.builtin "sorted") (rSortD X.K) dSortedC := by
  refine ⟨cr_sortD hu, ?_⟩
  intro F H M ds xs Q P A r h k
  unfold dSortedC at h
  split at h
  · obtain ⟨x, rfl, q⟩ := r.one
    obtain ⟨zs, e, so, h⟩ := h
    refine sort_at A q e so fun ys p hp rr => ?_
    obtain ⟨s2, a2⟩ := A.cell (o := .lst ys) (c := .lst (zs.mergeSort leD)) hp ⟨_, upd_same, rr⟩
    exact k _ _ _ _ _ s2 a2 Rep.of_v (h p (A.free hp).2)
  · exact h.elim
end
end DS

set_option Elab.async false
set_option linter.all false
set_option maxRecDepth 100000
set_option maxHeartbeats 2000000
/-! DS8: lists and dicts changed in place; instances. -/
namespace DS
open PySem PySem.Spec PyProof.Rows L2
section
variable {X : Cx}
/-! ### methods of lists -/
abbrev DM := D → List D → Mem → (D → Mem → Prop) → Prop
def LiftM (K : PySem.W.Frag) (r : V → List V → Hp → VK → Prop) (dr : DM) : Prop := ∀ (F H : Hp) (M : Mem) (d : D) (x : V) (ds : List D) (xs : List V) (Q : D → Mem → Prop) (P : VK), MAbs K F H M → Rep K F d x → RepL K F ds xs → dr d ds M Q →
  (∀ F' H' M' z v, Step F H M F' H' M' → MAbs K F' H' M' → Rep K F' z v → Q z M' → P v H') → r x xs H P
structure MM (X : Cx) (id : String) (r : V → List V → Hp → VK → Prop) (dr : DM) : Prop where
  p : MtR X id r
  l : LiftM X.K r dr
/-- the receiver is a list -/
def isL (M : Mem) (x : D) : Prop := (lstOf M x).isSome = true
def dMeth (dr : DM) (de : DTE) (da : DTA) : DTE := fun E M Q => de E M fun x E1 M1 => isL M1 x ∧ da E1 M1 fun xs E2 M2 => dr x xs M2 fun z M3 => Q z E2 M3
theorem isL_at {K : PySem.W.Frag} {F H : Hp} {M : Mem} {d : D} {x : V} (A : MAbs K F H M) (r : Rep K F d x) (h : isL M d) : tyV K "list" x H := by
  unfold isL at h
  cases e : lstOf M d with
  | none => rw [e] at h; cases h
  | some ds =>
    obtain ⟨a, xs, rfl, s, _⟩ := lstOf_at A r e
    exact .inl ⟨rfl, xs, s⟩
theorem lift_meth {K : PySem.W.Frag} {r : V → List V → Hp → VK → Prop} {dr : DM} {te : TE} {de : DTE} {ta : TA} {da : DTA} (lr : LiftM K r dr) (le : LiftE K te de) (la : LiftA K ta da) : LiftE K (tBM K "list" r te ta) (dMeth dr de da) := by
  intro F σ H E M Q P A h k
  refine le F σ H E M _ _ A h fun F1 H1 E1 M1 x v s1 A1 r1 h1 => ⟨isL_at A1.m r1 h1.1, ?_⟩
  refine la F1 σ H1 E1 M1 _ _ A1 h1.2 fun F2 H2 E2 M2 xs vs s2 A2 r2 h2 => ?_
  refine lr F2 H2 M2 x v xs vs _ _ A2.m (r1.mono s2.grow) r2 h2 fun F3 H3 M3 z w s3 A3 r3 h3 => ?_
  exact k F3 H3 E2 M3 z w ((s1.trans s2).trans s3) ⟨A3, A2.e.mono s3.grow⟩ r3 h3
theorem lift_meth0 {K : PySem.W.Frag} {r : V → List V → Hp → VK → Prop} {dr : DM} {te : TE} {de : DTE} (lr : LiftM K r dr) (le : LiftE K te de) : LiftE K (tBM0 K "list" r te) (dMeth dr de dANil) := by
  intro F σ H E M Q P A h k
  refine le F σ H E M _ _ A h fun F1 H1 E1 M1 x v s1 A1 r1 h1 => ⟨isL_at A1.m r1 h1.1, ?_⟩
  refine lr F1 H1 M1 x v [] [] _ _ A1.m r1 RepL.nil h1.2 fun F3 H3 M3 z w s3 A3 r3 h3 => ?_
  exact k F3 H3 E1 M3 z w (s1.trans s3) ⟨A3, A1.e.mono s3.grow⟩ r3 h3
theorem e_meth {o e : Expr} {es : List Expr} {to : TE} {do_ : DTE} {t : TA} {d : DTA} {name : Str} {apos cpos : Pos} {id : String} {r : V → List V → Hp → VK → Prop} {dr : DM} (slot : Slot "list" name id) (hty : typeOf (.builtin id) = pure (.type "method_descriptor")) (hm : MM X id r dr) (ho : EE X o to do_) (ha : AA X (e :: es) t d)
    (hbase : attributeBase o name X.env (eval o X.env) = eval o X.env := by rfl)
    (hfew : ((backTo cpos (starEach (e :: es) X.env)).all (fun x => !x.1) && (backToKw cpos (keywordEach [] X.env)).all (fun x => x.1.isSome)
      && decide ((e :: es).length + ([] : List Keyword).length + (if ([] : List Keyword).isEmpty then 0 else 1) < 30)) = true := by rfl)
    (hline : (apos.endLine == cpos.line) = true := by rfl) (hs : starEach (e :: es) X.env = (false, eval e X.env) :: starEach es X.env := by rfl) (hplain : (backTo cpos (starEach es X.env)).any (·.1) = false := by rfl) :
    EE X (.Call (.Attribute o name apos) (e :: es) [] cpos) (tBM X.K "list" r to t) (dMeth dr do_ d) :=
  ⟨pe_bm PySem.F.plainAttrs_list slot hty hm.p ho.p ha.p hbase hfew hline hs hplain, lift_meth hm.l ho.l ha.l⟩
theorem e_meth0 {o : Expr} {to : TE} {do_ : DTE} {name : Str} {apos cpos : Pos} {id : String} {r : V → List V → Hp → VK → Prop} {dr : DM} (slot : Slot "list" name id) (hty : typeOf (.builtin id) = pure (.type "method_descriptor")) (hm : MM X id r dr) (ho : EE X o to do_)
    (hbase : attributeBase o name X.env (eval o X.env) = eval o X.env := by rfl) (hline : (apos.endLine == cpos.line) = true := by rfl) :
    EE X (.Call (.Attribute o name apos) [] [] cpos) (tBM0 X.K "list" r to) (dMeth dr do_ dANil) :=
  ⟨pe_bm0 PySem.F.plainAttrs_list slot hty hm.p ho.p hbase hline, lift_meth0 hm.l ho.l⟩
def dAppend : DM := fun x ys M Q => match x, ys with
  | .v (.ref l), [y] => ∃ ds, M l = some (.lst ds) ∧ ds.length < sizeLine ∧ Q (.v .non) (updM M l (.lst (ds ++ [y])))
  | _, _ => False
theorem m_append : MM X "list.append" rAppend dAppend := by
  refine ⟨mt_append, ?_⟩
  intro F H M d x ds xs Q P A r rs h k
  unfold dAppend at h
  split at h
  · rename_i l y
    obtain ⟨zs, hM, hl, q⟩ := h
    rw [Rep.v_eq r]
    obtain ⟨v, rfl, ry⟩ := rs.one
    obtain ⟨ws, e, rr⟩ := (A.mem l _ hM).2
    refine ⟨l, ws, v, rfl, rfl, e, by rw [← rr.length]; exact hl, ?_⟩
    obtain ⟨s2, a2⟩ := A.write (o := .lst (ws ++ [v])) (c := .lst (zs ++ [y])) hM ⟨_, upd_same, rr.snoc ry⟩
    exact k _ _ _ _ _ s2 a2 Rep.of_v q
  · exact h.elim
def dExtend : DM := fun x ys M Q => match x, ys with
  | .v (.ref l), [y] => ∃ ds es, M l = some (.lst ds) ∧ trkOf M y = some es ∧ ds.length + es.length ≤ sizeLine ∧ Q (.v .non) (updM M l (.lst (ds ++ es)))
  | _, _ => False
theorem m_extend : MM X "list.extend" rExtend dExtend := by
  refine ⟨mt_extend, ?_⟩
  intro F H M d x ds xs Q P A r rs h k
  unfold dExtend at h
  split at h
  · rename_i l y
    obtain ⟨zs, es, hM, he, hl, q⟩ := h
    rw [Rep.v_eq r]
    obtain ⟨v, rfl, ry⟩ := rs.one
    obtain ⟨ws, e, rr⟩ := (A.mem l _ hM).2
    obtain ⟨b, us, rfl, eb, rb⟩ := trkOf_at A ry he
    refine ⟨l, b, ws, us, rfl, rfl, e, eb, by rw [← rr.length, ← rb.length]; exact hl, ?_⟩
    obtain ⟨s2, a2⟩ := A.write (o := .lst (ws ++ us)) (c := .lst (zs ++ es)) hM ⟨_, upd_same, rr.append rb⟩
    exact k _ _ _ _ _ s2 a2 Rep.of_v q
  · exact h.elim
def dPop : DM := fun x ys M Q => match x, ys with
  | .v (.ref l), [] => ∃ ds y, M l = some (.lst ds) ∧ ds.getLast? = some y ∧ Q y (updM M l (.lst ds.dropLast))
  | _, _ => False
theorem m_pop : MM X "list.pop" rPop dPop := by
  refine ⟨mt_pop, ?_⟩
  intro F H M d x ds xs Q P A r rs h k
  unfold dPop at h
  split at h
  · rename_i l
    obtain ⟨zs, y, hM, hl, q⟩ := h
    rw [Rep.v_eq r]
    have e0 := RepL.nil_iff.mp rs
    subst e0
    obtain ⟨ws, e, rr⟩ := (A.mem l _ hM).2
    rw [List.getLast?_eq_getElem?] at hl
    obtain ⟨v, e1, e2⟩ := rr.get hl
    rw [rr.length] at e1
    refine ⟨l, ws, v, rfl, rfl, e, e1, ?_⟩
    obtain ⟨s2, a2⟩ := A.write (o := .lst ws.dropLast) (c := .lst zs.dropLast) hM ⟨_, upd_same, rr.dropLast⟩
    exact k _ _ _ _ _ s2 a2 (e2.mono s2.grow) q
  · exact h.elim
def dPopAt : DM := fun x ys M Q => match x, ys with
  | .v (.ref l), [.v (.int i)] => ∃ ds y, M l = some (.lst ds) ∧ SmallI i ∧ 0 ≤ i ∧ ds[i.toNat]? = some y ∧ Q y (updM M l (.lst (ds.eraseIdx i.toNat)))
  | _, _ => False
theorem m_popAt : MM X "list.pop" rPopAt dPopAt := by
  refine ⟨mt_popAt, ?_⟩
  intro F H M d x ds xs Q P A r rs h k
  unfold dPopAt at h
  split at h
  · rename_i l i
    obtain ⟨zs, y, hM, hs, h0, hl, q⟩ := h
    rw [Rep.v_eq r]
    obtain ⟨w, rfl, rw'⟩ := rs.one
    rw [Rep.v_eq rw']
    obtain ⟨ws, e, rr⟩ := (A.mem l _ hM).2
    obtain ⟨v, e1, e2⟩ := rr.get hl
    have hlt := (List.getElem?_eq_some_iff.mp e1).1
    refine ⟨l, ws, i, i.toNat, v, rfl, rfl, e, by have := hs.1; omega, by have := hs.2; omega, ?_, e1, ?_⟩
    · exact seqIndex_of h0 (by omega)
    obtain ⟨s2, a2⟩ := A.write (o := .lst (ws.eraseIdx i.toNat)) (c := .lst (zs.eraseIdx i.toNat)) hM ⟨_, upd_same, rr.eraseIdx _⟩
    exact k _ _ _ _ _ s2 a2 (e2.mono s2.grow) q
  · exact h.elim
def dClear : DM := fun x ys M Q => match x, ys with
  | .v (.ref l), [] => ∃ ds, M l = some (.lst ds) ∧ Q (.v .non) (updM M l (.lst []))
  | _, _ => False
theorem m_clear : MM X "list.clear" rClear dClear := by
  refine ⟨mt_clear, ?_⟩
  intro F H M d x ds xs Q P A r rs h k
  unfold dClear at h
  split at h
  · rename_i l
    obtain ⟨zs, hM, q⟩ := h
    rw [Rep.v_eq r]
    have e0 := RepL.nil_iff.mp rs
    subst e0
    obtain ⟨ws, e, rr⟩ := (A.mem l _ hM).2
    refine ⟨l, ws, rfl, rfl, e, ?_⟩
    obtain ⟨s2, a2⟩ := A.write (o := .lst []) (c := .lst []) hM ⟨_, upd_same, RepL.nil⟩
    exact k _ _ _ _ _ s2 a2 Rep.of_v q
  · exact h.elim
def rInsert : V → List V → Hp → VK → Prop := fun x vs H Q => ∃ (l : Addr) (xs : List V) (i : Int) (y : V), x = .ref l ∧ vs = [.int i, y] ∧ H l = some (.lst xs) ∧ xs.length < sizeLine ∧ 0 ≤ i ∧ i < 2 ^ 63 ∧
    Q .non (upd H l (.lst (xs.take i.toNat ++ [y] ++ xs.drop i.toNat)))
def dInsert : DM := fun x ys M Q => match x, ys with
  | .v (.ref l), [.v (.int i), y] => ∃ ds, M l = some (.lst ds) ∧ ds.length < sizeLine ∧ 0 ≤ i ∧ SmallI i ∧ Q (.v .non) (updM M l (.lst (ds.take i.toNat ++ [y] ++ ds.drop i.toNat)))
  | _, _ => False
theorem m_insert : MM X "list.insert" rInsert dInsert := by
  refine ⟨mt_insert, ?_⟩
  intro F H M d x ds xs Q P A r rs h k
  unfold dInsert at h
  split at h
  · rename_i l i y
    obtain ⟨zs, hM, hl, h0, hs, q⟩ := h
    rw [Rep.v_eq r]
    obtain ⟨v, w, rfl, r1, r2⟩ := rs.two
    rw [Rep.v_eq r1]
    obtain ⟨ws, e, rr⟩ := (A.mem l _ hM).2
    refine ⟨l, ws, i, w, rfl, rfl, e, by rw [← rr.length]; exact hl, h0, by have := hs.2; omega, ?_⟩
    obtain ⟨s2, a2⟩ := A.write (o := .lst (ws.take i.toNat ++ [w] ++ ws.drop i.toNat)) (c := .lst (zs.take i.toNat ++ [y] ++ zs.drop i.toNat)) hM ⟨_, upd_same, ((rr.take _).snoc r2).append (rr.drop _)⟩
    exact k _ _ _ _ _ s2 a2 Rep.of_v q
  · exact h.elim
/-! ### o[i] = v -/
def rSetDct : V → V → V → Hp → (Hp → Prop) → Prop := fun o i v H Q => ∃ a H', o = .ref a ∧ DPut H a i v H' ∧ Q H'
theorem set_dct (hu : X.A.units + 1 < cLine) : PSet X rSetDct := by
  intro pins s σ H o i v ov iv u Q I ro ri rv h
  obtain ⟨a, H', rfl, g, q⟩ := h
  cases ro
  exact d_setItem hu I g ri rv fun s' I' => ⟨H', I', q⟩
theorem PSet.or {r r' : TSet} (h : PSet X r) (h' : PSet X r') : PSet X (fun o i v H Q => r o i v H Q ∨ r' o i v H Q) := by
  intro pins s σ H o i v ov iv u Q I ro ri rv z
  rcases z with z | z
  · exact h pins s σ H o i v ov iv u Q I ro ri rv z
  · exact h' pins s σ H o i v ov iv u Q I ro ri rv z
def rSetU : TSet := fun o i v H Q => rSetL o i v H Q ∨ rSetDct o i v H Q
def putD {κ : Type} [DecidableEq κ] (kvs : List (κ × D)) (k : κ) (v : D) : List (κ × D) :=
  if kvs.any (fun kv => decide (kv.1 = k)) then kvs.map fun kv => if kv.1 = k then (kv.1, v) else kv else kvs ++ [(k, v)]
theorem putD_at {K : PySem.W.Frag} {F : Hp} {kvs : List (Key × D)} {ks : List (Key × V)} (r : RepP K F kvs ks) (k : Key) {d : D} {v : V} (rd : Rep K F d v) : RepP K F (putD kvs k d) (putK ks k v) := by
  have hany : ∀ {kvs : List (Key × D)} {ks : List (Key × V)}, RepP K F kvs ks → (kvs.any fun kv => decide (kv.1 = k)) = ks.any fun kv => decide (kv.1 = k) := by
    intro kvs ks r
    induction r with
    | nil => rfl
    | cons h _ ih => rw [List.any_cons, List.any_cons, ih, h.1]
  have hmap : ∀ {kvs : List (Key × D)} {ks : List (Key × V)}, RepP K F kvs ks → RepP K F (kvs.map fun kv => if kv.1 = k then (kv.1, d) else kv) (ks.map fun kv => if kv.1 = k then (kv.1, v) else kv) := by
    intro kvs ks r
    induction r with
    | nil => exact .nil
    | @cons a b l m h _ ih =>
      rw [List.map_cons, List.map_cons]
      refine .cons ?_ ih
      by_cases e : a.1 = k
      · have e' : b.1 = k := h.1 ▸ e
        rw [if_pos e, if_pos e']
        exact ⟨h.1, rd⟩
      · have e' : ¬ b.1 = k := h.1 ▸ e
        rw [if_neg e, if_neg e']
        exact h
  unfold putD putK
  rw [hany r]
  split
  · exact hmap r
  · exact Paired.snoc r ⟨rfl, rd⟩
abbrev DSet := D → D → D → Mem → (Mem → Prop) → Prop
def dSetIx : DSet := fun o i v M Q => match o, i with
  | .v (.ref a), .v k => ∃ c, M a = some c ∧ match c with
    | .lst ds => ∃ (n : Int) (j : Nat), k = .int n ∧ ixN ds.length n = some j ∧ Q (updM M a (.lst (ds.set j v)))
    | .dct kvs => ∃ κ : Key, k = kV κ ∧ kvs.length < sizeLine ∧ Q (updM M a (.dct (putD kvs κ v)))
    | _ => False
  | _, _ => False
def dSub (dv do_ di : DTE) : DTS := fun A E M => dv E M fun v E1 M1 => do_ E1 M1 fun o E2 M2 => di E2 M2 fun i E3 M3 => dSetIx o i v M3 fun M4 => A.nx E3 M4
theorem s_sub {o i e : Expr} {to ti te : TE} {do_ di de : DTE} {pos' pos : Pos} (hu : X.A.units + 1 < cLine) (he : EE X e te de) (ho : EE X o to do_) (hi : EE X i ti di)
    (ha : ∀ v, assign (.Subscript o i pos') X.env v = (do
      let ov ← holding [v] (eval o X.env)
      let iv ← holding [v, ov] (eval i X.env)
      standAt pos'
      holding [v, ov, iv] (setItem ov iv v)
      release [v, ov, iv] []) := by intro _; rfl)
    (hs : swapsWithSole [.Subscript o i pos'] e pos.line X.env = pure false := by rfl) (hw : swappedStores [.Subscript o i pos'] e X.env = pure none := by rfl)
    (h1 : (assignEach [.Subscript o i pos'] X.env).map (·.2) = [assign (.Subscript o i pos') X.env] := by rfl) : SS X (.Assign [.Subscript o i pos'] e pos) (tAsg te (gSub to ti rSetU)) (dSub de do_ di) := by
  refine ⟨ps_asg he.p (pg_sub ho.p hi.p (PSet.or set_list (set_dct hu)) ha) hs hw h1, fun F σ H E M A P a h k kr => ?_⟩
  refine he.l F σ H E M _ _ a h fun F1 H1 E1 M1 v vv s1 a1 r1 h1 => ?_
  refine ho.l F1 σ H1 E1 M1 _ _ a1 h1 fun F2 H2 E2 M2 o ov s2 a2 r2 h2 => ?_
  refine hi.l F2 σ H2 E2 M2 _ _ a2 h2 fun F3 H3 E3 M3 i iv s3 a3 r3 h3 => ?_
  have r1' := r1.mono (s2.trans s3).grow
  have s' := (s1.trans s2).trans s3
  unfold dSetIx at h3
  split at h3
  · rename_i p kk
    rw [Rep.v_eq r2, Rep.v_eq r3]
    obtain ⟨c, hM, h3⟩ := h3
    cases c with
    | lst ds =>
      obtain ⟨n, j, rfl, ij, q⟩ := h3
      obtain ⟨ws, e, rr⟩ := (a3.m.mem p _ hM).2
      obtain ⟨s4, a4⟩ := a3.m.write (o := .lst (ws.set j vv)) (c := .lst (ds.set j v)) hM ⟨_, upd_same, RepL.set r1' j rr⟩
      exact .inl ⟨p, ws, n, j, rfl, rfl, e, by rw [← rr.length]; exact ij, (k _ _ _ _ _ (s'.trans s4) ⟨a4, a3.e.mono s4.grow⟩).1 q⟩
    | dct kvs =>
      obtain ⟨κ, rfl, hl, q⟩ := h3
      obtain ⟨ks, e, rr⟩ := (a3.m.mem p _ hM).2
      obtain ⟨s4, a4⟩ := a3.m.write (o := .dK (putK ks κ vv)) (c := .dct (putD kvs κ v)) hM ⟨_, upd_same, putD_at rr κ r1'⟩
      exact .inr ⟨p, _, rfl, DPut.k e (by rw [← paired_len rr]; exact hl), (k _ _ _ _ _ (s'.trans s4) ⟨a4, a3.e.mono s4.grow⟩).1 q⟩
    | obj C ns ds => exact h3.elim
  · exact h3.elim
/-! ### d.get(k, x) -/
def dDGet2 (da db dc : DTE) : DTE := fun E M Q => da E M fun x E1 M1 => match x with
  | .v (.ref a) => (∃ kvs0, M1 a = some (.dct kvs0)) ∧ db E1 M1 fun y E2 M2 => dc E2 M2 fun z E3 M3 => ∃ (kvs : List (Key × D)) (κ : Key), M3 a = some (.dct kvs) ∧ y = .v (kV κ) ∧ Q (((kvs.find? fun kv => decide (kv.1 = κ)).map (·.2)).getD z) E3 M3
  | _ => False
theorem e_dget2 {o e f : Expr} {to te tf : TE} {do_ de df : DTE} {apos cpos : Pos} (hu : X.A.units + 1 < cLine) (ho : EE X o to do_) (he : EE X e te de) (hf : EE X f tf df) (m : M2 X o "get" apos e f cpos := by exact ⟨rfl, rfl, rfl, rfl⟩) :
    EE X (.Call (.Attribute o "get" apos) [e, f] [] cpos) (tDGet2 to te tf) (dDGet2 do_ de df) := by
  refine ⟨pe_dget2 hu ho.p he.p hf.p m, ?_⟩
  intro F σ H E M Q P A h k
  refine ho.l F σ H E M _ _ A h fun F1 H1 E1 M1 x v s1 A1 r1 h1 => ?_
  split at h1
  · rename_i a
    obtain ⟨⟨kvs0, hM0⟩, h1⟩ := h1
    rw [Rep.v_eq r1]
    obtain ⟨ks0, e0, _⟩ := (A1.m.mem a _ hM0).2
    refine ⟨a, rfl, .inl ⟨ks0, .inl e0⟩, ?_⟩
    refine he.l F1 σ H1 E1 M1 _ _ A1 h1 fun F2 H2 E2 M2 y vy s2 A2 r2 h2 => ?_
    refine hf.l F2 σ H2 E2 M2 _ _ A2 h2 fun F3 H3 E3 M3 z vz s3 A3 r3 h3 => ?_
    obtain ⟨kvs, κ, hM, rfl, q⟩ := h3
    rw [Rep.v_eq r2]
    obtain ⟨ks, e, rr⟩ := (A3.m.mem a _ hM).2
    refine ⟨_, DGet.k e, ?_⟩
    refine k F3 H3 E3 M3 _ _ ((s1.trans s2).trans s3) A3 ?_ q
    cases ef : kvs.find? fun kv => decide (kv.1 = κ) with
    | none =>
      rw [find_none rr ef]
      exact r3
    | some p =>
      obtain ⟨w, e1, e2⟩ := find_some rr ef
      rw [e1]
      exact e2
  · exact h1.elim
/-! ### name op= e -/
def dAug (i : Nat) (d : DTE) (dr : DR2) : DTS := fun A E M => match E[i]? with
  | some (some x) => d E M fun y E1 M1 => dr x y M1 fun z M2 => A.nx (E1.set i (some z)) M2
  | _ => False
theorem o_iadd : OO X (inplaceOp .Add) (rI0 fun i j => .int (i + j)) (dI0 fun i j => .int (i + j)) := ⟨iop_add, lift_I0⟩
theorem o_isub : OO X (inplaceOp .Sub) (rI0 fun i j => .int (i - j)) (dI0 fun i j => .int (i - j)) := ⟨iop_sub, lift_I0⟩
theorem s_aug {i : Nat} {x : Str} {e : Expr} {t : TE} {d : DTE} {op : Operator} {r : R2} {dr : DR2} {pos' pos : Pos} (hN : X.N.Nodup) (he : EE X e t d) (ho : OO X (inplaceOp op) r dr) (hi : X.N[i]? = some x := by rfl) (hx : Loc X.env.scope x := by first | exact Or.inl rfl | exact Or.inr rfl) (hf : X.fn x = true ∨ X.env.scope.names.lookup x = some .local := by first | exact .inl rfl | exact .inr rfl | assumption) :
    SS X (.AugAssign (.Name x pos') op e pos) (tAug i t r) (dAug i d dr) := by
  refine ⟨ps_aug hN hi hx he.p (fun pins s σ H x y v u Q I r1 r2 h => ho.p pins s σ H x y v u Q I r1 r2 h) hf, fun F σ H E M A P a h k kr => ?_⟩
  unfold dAug at h
  split at h
  · rename_i dx e1
    obtain ⟨vx, e2, rx⟩ := a.e.2 i dx e1
    refine ⟨vx, e2, ?_⟩
    refine he.l F σ H E M _ _ a h fun F1 H1 E1 M1 y vy s1 a1 r1 h1 => ?_
    refine ho.l F1 H1 M1 dx y vx vy _ _ a1.m (rx.mono s1.grow) r1 h1 fun F2 H2 M2 z w s2 a2 r2 h2 => ?_
    exact (k F2 _ H2 _ M2 (s1.trans s2) ⟨a2, (a1.e.mono s2.grow).set i r2⟩).1 h2
  · exact h.elim
/-! ### a cell frozen as it is read -/
/-- a name that holds a list's cell: from here on the list is data -/
def dVarF (i : Nat) : DTE := fun E M Q => match E[i]? with
  | some (some (.v (.ref a))) => ∃ ds, M a = some (.lst ds) ∧ Q (.lst ds) (E.set i (some (.lst ds))) (rmM M a)
  | some (some d) => Q d E M
  | _ => False
theorem set_same {α : Type} {l : List α} {i : Nat} {x : α} (h : l[i]? = some x) : l.set i x = l := by
  apply List.ext_getElem?
  intro j
  rw [List.getElem?_set]
  split
  · rename_i e
    subst e
    rw [h]
    have := (List.getElem?_eq_some_iff.mp h).1
    rw [if_pos this]
  · rfl
theorem lift_varF {K : PySem.W.Frag} (i : Nat) : LiftE K (tVar i) (dVarF i) := by
  intro F σ H E M Q P A h k
  unfold dVarF at h
  split at h
  · rename_i a e
    obtain ⟨ds, hM, q⟩ := h
    obtain ⟨v, e1, r⟩ := A.e.2 i _ e
    have ev := Rep.v_eq r
    subst ev
    obtain ⟨xs, hx, rr⟩ := (A.m.mem a _ hM).2
    obtain ⟨s2, a2⟩ := A.m.freeze hM hx
    have rl : Rep K (upd F a (.lst xs)) (.lst ds) (.ref a) := Rep.lst_iff.mpr ⟨a, xs, rfl, upd_same, rr.mono s2.grow⟩
    refine ⟨.ref a, e1, k _ H _ _ _ _ s2 ⟨a2, ?_⟩ rl q⟩
    have := (A.e.mono s2.grow).set i rl
    rw [set_same e1] at this
    exact this
  · rename_i d hn e
    obtain ⟨v, e1, r⟩ := A.e.2 i d e
    exact ⟨v, e1, k F H E M d v Step.refl A r h⟩
  · exact h.elim
theorem ef (i : Nat) {x : Str} {pos : Pos} (hN : X.N[i]? = some x := by rfl) (hv : Vis X.env.scope x := by first | exact Or.inl rfl | exact Or.inr (Or.inl rfl) | exact Or.inr (Or.inr rfl)) (hd : (x == ("__debug__" : Str)) = false := by decide)
    (hcd : (x == ("__classdict__" : Str)) = false := by decide) : EE X (.Name x pos) (tVar i) (dVarF i) := ⟨pe_var hN hv hd hcd, lift_varF i⟩
/-! ### instances -/
/-- what the class at C says of its attribute f, the j-th of its instances' -/
structure Fk (K : PySem.W.Frag) (C : Addr) (ns : List Str) (f : Str) (j : Nat) : Prop where
  cl : Cls K C
  na : NoAttr K C f
  at_ : ∀ xs : List V, xs.length = ns.length → (ns.zip xs).lookup f = xs[j]?
/-- o.f -/
def dFld (K : PySem.W.Frag) (f : Str) (de : DTE) : DTE := fun E M Q => de E M fun x E1 M1 => match x with
  | .obj C ns ds => ∃ j d, Fk K C ns f j ∧ ds[j]? = some d ∧ Q d E1 M1
  | .v (.ref a) => ∃ c, M1 a = some c ∧ match c with
    | .obj C ns ds => ∃ j d, Fk K C ns f j ∧ ds[j]? = some d ∧ Q d E1 M1
    | _ => False
  | _ => False
theorem fk_at {K : PySem.W.Frag} {F : Hp} {C : Addr} {ns : List Str} {f : Str} {j : Nat} {ds : List D} {xs : List V} {d : D} (fk : Fk K C ns f j) (hl : ns.length = ds.length) (rr : RepL K F ds xs) (e : ds[j]? = some d) : ∃ v, (ns.zip xs).lookup f = some v ∧ Rep K F d v := by
  obtain ⟨v, e1, e2⟩ := rr.get e
  exact ⟨v, (fk.at_ xs (by rw [hl, rr.length])).trans e1, e2⟩
theorem e_fld {o : Expr} {f : Str} {to : TE} {do_ : DTE} {pos : Pos} (ho : EE X o to do_) (hb : attributeBase o f X.env (eval o X.env) = eval o X.env := by rfl) : EE X (.Attribute o f pos) (tFld X.K to f) (dFld X.K f do_) := by
  refine ⟨pe_fld ho.p hb, ?_⟩
  intro F σ H E M Q P A h k
  refine ho.l F σ H E M _ _ A h fun F1 H1 E1 M1 x v s1 A1 r1 h1 => ?_
  split at h1
  · rename_i C ns ds
    obtain ⟨j, d, fk, e, q⟩ := h1
    obtain ⟨a, dx, xs, rfl, ha, hl, rr⟩ := Rep.obj_iff.mp r1
    obtain ⟨w, e1, e2⟩ := fk_at fk hl rr e
    exact ⟨a, C, dx, _, w, rfl, A1.m.same _ _ ha, fk.cl, fk.na, e1, k F1 H1 E1 M1 _ _ s1 A1 e2 q⟩
  · rename_i a
    obtain ⟨c, hM, h1⟩ := h1
    rw [Rep.v_eq r1]
    cases c with
    | obj C ns ds =>
      obtain ⟨j, d, fk, e, q⟩ := h1
      obtain ⟨dx, xs, ha, hl, rr⟩ := (A1.m.mem a _ hM).2
      obtain ⟨w, e1, e2⟩ := fk_at fk hl rr e
      exact ⟨a, C, dx, _, w, rfl, ha, fk.cl, fk.na, e1, k F1 H1 E1 M1 _ _ s1 A1 e2 q⟩
    | _ => exact h1.elim
  · exact h1.elim
theorem putF_new {f : Str} {v : V} : ∀ {ns : List Str} {xs : List V}, ns.length = xs.length → f ∉ ns → putF f v (ns.zip xs) = (ns ++ [f]).zip (xs ++ [v])
  | [], [], _, _ => rfl
  | n :: ns, x :: xs, hl, hn => by
    have h1 : ¬ n = f := fun z => hn (by rw [z]; exact List.mem_cons_self)
    have ih := putF_new (f := f) (v := v) (ns := ns) (xs := xs) (by simpa using hl) fun z => hn (List.mem_cons_of_mem _ z)
    show putF f v ((n, x) :: ns.zip xs) = (n, x) :: (ns ++ [f]).zip (xs ++ [v])
    rw [← ih]
    show (if n = f then (n, v) :: ns.zip xs else (n, x) :: putF f v (ns.zip xs)) = _
    rw [if_neg h1]
  | [], _ :: _, hl, _ => by cases hl
  | _ :: _, [], hl, _ => by cases hl
theorem putF_old {f : Str} {v : V} : ∀ {ns : List Str} {xs : List V} {j : Nat}, ns.length = xs.length → ns.Nodup → ns[j]? = some f → putF f v (ns.zip xs) = ns.zip (xs.set j v)
  | [], _, _, _, _, h => by simp at h
  | _ :: _, [], _, hl, _, _ => by cases hl
  | n :: ns, x :: xs, 0, hl, nd, h => by
    simp at h
    subst h
    show putF n v ((n, x) :: ns.zip xs) = (n, v) :: ns.zip xs
    unfold putF
    rw [if_pos rfl]
  | n :: ns, x :: xs, j + 1, hl, nd, h => by
    have hm : ns[j]? = some f := by simpa using h
    have h1 : ¬ n = f := fun z => (List.nodup_cons.mp nd).1 (by rw [z]; exact List.mem_of_getElem? hm)
    have ih := putF_old (f := f) (v := v) (ns := ns) (xs := xs) (j := j) (by simpa using hl) (List.nodup_cons.mp nd).2 hm
    show putF f v ((n, x) :: ns.zip xs) = (n, x) :: ns.zip (xs.set j v)
    rw [← ih]
    show (if n = f then (n, v) :: ns.zip xs else (n, x) :: putF f v (ns.zip xs)) = _
    rw [if_neg h1]
/-- o.f = e, o a cell -/
def dSetF (K : PySem.W.Frag) (f : Str) (dv do_ : DTE) : DTS := fun A E M => dv E M fun v E1 M1 => do_ E1 M1 fun x E2 M2 => match x with
  | .v (.ref a) => ∃ C ns ds, M2 a = some (.obj C ns ds) ∧ Cls K C ∧ NoAttr K C f ∧ ns.length < 1000 ∧
      ((f ∉ ns ∧ A.nx E2 (updM M2 a (.obj C (ns ++ [f]) (ds ++ [v])))) ∨ ∃ j, ns.Nodup ∧ ns[j]? = some f ∧ A.nx E2 (updM M2 a (.obj C ns (ds.set j v))))
  | _ => False
theorem s_fld {o e : Expr} {f : Str} {to te : TE} {do_ de : DTE} {pos' pos : Pos} (ho : EE X o to do_) (he : EE X e te de) (hs : swapsWith e (some (.Attribute o f pos')) pos.line X.env = pure false := by rfl) : SS X (.Assign [.Attribute o f pos'] e pos) (sFld X.K to te f) (dSetF X.K f de do_) := by
  refine ⟨ps_fld ho.p he.p hs, fun F σ H E M A P a h k kr => ?_⟩
  refine he.l F σ H E M _ _ a h fun F1 H1 E1 M1 v vv s1 a1 r1 h1 => ?_
  refine ho.l F1 σ H1 E1 M1 _ _ a1 h1 fun F2 H2 E2 M2 x xv s2 a2 r2 h2 => ?_
  have r1' := r1.mono s2.grow
  split at h2
  · rename_i p
    obtain ⟨C, ns, ds, hM, cl, na, hn, h2⟩ := h2
    rw [Rep.v_eq r2]
    obtain ⟨dx, xs, hp, hl, rr⟩ := (a2.m.mem p _ hM).2
    have hlx : ns.length = xs.length := hl.trans rr.length
    refine ⟨p, C, dx, _, rfl, hp, cl, na, by rw [List.length_zip, ← hlx, Nat.min_self]; exact hn, ?_⟩
    rcases h2 with ⟨hf, q⟩ | ⟨j, nd, hj, q⟩
    · rw [putF_new hlx hf]
      obtain ⟨s4, a4⟩ := a2.m.write (o := .ins C dx ((ns ++ [f]).zip (xs ++ [vv]))) (c := .obj C (ns ++ [f]) (ds ++ [v])) hM ⟨dx, _, upd_same, by rw [List.length_append, List.length_append, hl] <;> rfl, rr.snoc r1'⟩
      exact (k _ _ _ _ _ ((s1.trans s2).trans s4) ⟨a4, a2.e⟩).1 q
    · rw [putF_old hlx nd hj]
      obtain ⟨s4, a4⟩ := a2.m.write (o := .ins C dx (ns.zip (xs.set j vv))) (c := .obj C ns (ds.set j v)) hM ⟨dx, _, upd_same, by rw [List.length_set]; exact hl, RepL.set r1' j rr⟩
      exact (k _ _ _ _ _ ((s1.trans s2).trans s4) ⟨a4, a2.e⟩).1 q
  · exact h2.elim
/-- C(e, ..): a new instance, a cell; then its __init__ -/
def dMake (C : Addr) (dsp : DSp) (dvs : List V) (da : DTA) : DTE := fun E M Q => da E M fun ds E1 M1 => ∀ x, M1 x = none → dsp (.v (.ref x) :: (ds ++ dvs.map D.v)) (updM M1 x (.obj C [] [])) (fun r M2 => r = .v .non ∧ Q (.v (.ref x)) E1 M2) X0
/-- a class of the text by its name, its __init__ -/
structure Cl (P : Program) (w : World) (K : PySem.W.Frag) (mg : Str → Option Value) (base : Heap) (CX : CXT) (k : Nat) (x : Str) (C : Addr) (ps : List Str) (dvs : List V) (dsp : DSp) : Prop where
  gl : mg x = some (.ref C)
  ex : ∃ f fd ds, Mk K C f ∧ FnOk P w K mg base CX k f fd ps (upSp K dsp) ∧ Vals dvs ds ∧ Binds K fd ps ds
theorem lift_make {K : PySem.W.Frag} {C : Addr} {dsp : DSp} {dvs : List V} {t : TA} {d : DTA} (l : LiftA K t d) : LiftE K (tMake C (upSp K dsp) dvs E0 t) (dMake C dsp dvs d) := by
  intro F σ H E M Q P A h k
  refine l F σ H E M _ _ A h fun F1 H1 E1 M1 rs vs s1 A1 r1 h1 x dx hx hdx ne => ?_
  obtain ⟨fx, mx⟩ := A1.m.free hx
  obtain ⟨fd, md⟩ := A1.m.free hdx
  -- the instance's own dict stands beside
  have m1 : MAbs K F1 (upd H1 dx (.own x)) M1 := ⟨fun b u q => by rw [upd_ne (ne_of_none q fd)]; exact A1.m.same b u q, fun b c q => by
    have ne' : b ≠ dx := by
      rintro rfl
      rw [md] at q
      cases q
    obtain ⟨f2, c2⟩ := A1.m.mem b c q
    exact ⟨f2, c2.mono (Same.refl F1) (by rw [upd_ne ne'])⟩⟩
  have s2 : Step F1 H1 M1 F1 (upd H1 dx (.own x)) M1 := ⟨Same.refl _, fun b u q f m => ⟨by rw [upd_ne (ne_of_none q hdx)]; exact q, f, m⟩⟩
  have hx' : (upd H1 dx (.own x)) x = none := by rw [upd_ne (Ne.symm ne)]; exact hx
  obtain ⟨s3, m3⟩ := m1.cell (o := .ins C dx []) (c := .obj C [] []) hx' ⟨dx, [], upd_same, rfl, RepL.nil⟩
  refine ⟨F1, _, _, _, X0, m3, .cons Rep.of_v (r1.append RepL.of_vs), h1 x mx, fun F4 H4 M4 d v s4 m4 r4 q => ?_, fun _ _ _ _ _ _ _ _ _ z => z⟩
  obtain ⟨e, q⟩ := q
  subst e
  have s5 := (s1.trans s2).trans (s3.trans s4)
  exact ⟨Rep.v_eq r4, k F4 H4 E1 M4 _ _ s5 ⟨m4, A1.e.mono ((s2.trans s3).trans s4).grow⟩ Rep.of_v q⟩
theorem e_make {k : Nat} {x : Str} {C : Addr} {ps : List Str} {dvs : List V} {dsp : DSp} {e : Expr} {es : List Expr} {t : TA} {d : DTA} {p pos : Pos} (G : Cl X.prog X.w X.K X.mg X.base CX0 k x C ps dvs dsp) (hr : Room (k + 1) X.A) (hg : Gl X x) (ha : AA X (e :: es) t d) (hdb : (x == ("__debug__" : Str)) = false := by decide)
    (he : starEach (e :: es) X.env = (false, eval e X.env) :: starEach es X.env := by rfl) (hpl : (backTo pos (starEach es X.env)).any (·.1) = false := by rfl) : EE X (.Call (.Name x p) (e :: es) [] pos) (tMake C (upSp X.K dsp) dvs E0 t) (dMake C dsp dvs d) := by
  obtain ⟨f, fd, ds, M, F, hd, hb⟩ := G.ex
  exact ⟨pe_make M F hr hg G.gl hb hd pass0 ha.p hdb he hpl, lift_make ha.l⟩
/-- an instance's cell frozen, where it is read by its name -/
def dVarFO (i : Nat) : DTE := fun E M Q => match E[i]? with
  | some (some (.v (.ref a))) => ∃ C ns ds, M a = some (.obj C ns ds) ∧ Q (.obj C ns ds) (E.set i (some (.obj C ns ds))) (rmM M a)
  | some (some d) => Q d E M
  | _ => False
theorem lift_varFO {K : PySem.W.Frag} (i : Nat) : LiftE K (tVar i) (dVarFO i) := by
  intro F σ H E M Q P A h k
  unfold dVarFO at h
  split at h
  · rename_i a e
    obtain ⟨C, ns, ds, hM, q⟩ := h
    obtain ⟨v, e1, r⟩ := A.e.2 i _ e
    have ev := Rep.v_eq r
    subst ev
    obtain ⟨dx, xs, hx, hl, rr⟩ := (A.m.mem a _ hM).2
    obtain ⟨s2, a2⟩ := A.m.freeze hM hx
    have rl : Rep K (upd F a (.ins C dx (ns.zip xs))) (.obj C ns ds) (.ref a) := Rep.obj_iff.mpr ⟨a, dx, xs, rfl, upd_same, hl, rr.mono s2.grow⟩
    refine ⟨.ref a, e1, k _ H _ _ _ _ s2 ⟨a2, ?_⟩ rl q⟩
    have := (A.e.mono s2.grow).set i rl
    rw [set_same e1] at this
    exact this
  · rename_i d hn e
    obtain ⟨v, e1, r⟩ := A.e.2 i d e
    exact ⟨v, e1, k F H E M d v Step.refl A r h⟩
  · exact h.elim
theorem efo (i : Nat) {x : Str} {pos : Pos} (hN : X.N[i]? = some x := by rfl) (hv : Vis X.env.scope x := by first | exact Or.inl rfl | exact Or.inr (Or.inl rfl) | exact Or.inr (Or.inr rfl)) (hd : (x == ("__debug__" : Str)) = false := by decide)
    (hcd : (x == ("__classdict__" : Str)) = false := by decide) : EE X (.Name x pos) (tVar i) (dVarFO i) := ⟨pe_var hN hv hd hcd, lift_varFO i⟩
end
end DS

set_option Elab.async false
set_option linter.all false
set_option maxRecDepth 100000
set_option maxHeartbeats 2000000
/-! DS9: more rules. -/
namespace DS
open PySem PySem.Spec PyProof.Rows L2
section
variable {X : Cx}
theorem units65 {k : Nat} {A : Around} (r : Room k A) : A.units + 65 < cLine := by have := r.un; omega
theorem o_pow : OO X (binaryOp .Pow) (rI CPow fun i j => .int (i ^ j.toNat)) (dI2 CPow fun i j => .int (i ^ j.toNat)) := ⟨op_pow, lift_I⟩
theorem lift_chain {K : PySem.W.Frag} {r r' : R2} {dr dr' : DR2} {ta tb tc : TE} {da db dc : DTE} (lr : LiftR2 K r dr) (lr' : LiftR2 K r' dr') (la : LiftE K ta da) (lb : LiftE K tb db) (lc : LiftE K tc dc) : LiftE K (tChain r r' ta tb tc) (dChain dr dr' da db dc) := by
  intro F σ H E M Q P A h k
  refine la F σ H E M _ _ A h fun F1 H1 E1 M1 x v s1 A1 r1 h1 => ?_
  refine lb F1 σ H1 E1 M1 _ _ A1 h1 fun F2 H2 E2 M2 y u s2 A2 r2 h2 => ?_
  refine lr F2 H2 M2 x y v u _ _ A2.m (r1.mono s2.grow) r2 h2 fun F3 H3 M3 z w s3 A3 r3 h3 => ?_
  obtain ⟨kc, ek, h3⟩ := h3
  subst ek
  cases kc
  case true =>
    rw [if_pos rfl] at h3
    refine ⟨true, Rep.v_eq r3, ?_⟩
    rw [if_pos rfl]
    refine lc F3 σ H3 E2 M3 _ _ ⟨A3, A2.e.mono s3.grow⟩ h3 fun F4 H4 E4 M4 c vc s4 A4 r4 h4 => ?_
    refine lr' F4 H4 M4 y c u vc _ _ A4.m (r2.mono (s3.trans s4).grow) r4 h4 fun F5 H5 M5 q vq s5 A5 r5 h5 => ?_
    exact k F5 H5 E4 M5 q vq ((((s1.trans s2).trans s3).trans s4).trans s5) ⟨A5, A4.e.mono s5.grow⟩ r5 h5
  case false =>
    rw [if_neg Bool.false_ne_true] at h3
    refine ⟨false, Rep.v_eq r3, ?_⟩
    rw [if_neg Bool.false_ne_true]
    exact k F3 H3 E2 M3 _ _ ((s1.trans s2).trans s3) ⟨A3, A2.e.mono s3.grow⟩ Rep.of_v h3
theorem e_chain {op op' : CmpOp} {a b c : Expr} {r r' : R2} {dr dr' : DR2} {ta tb tc : TE} {da db dc : DTE} {pos : Pos} (ho : OO X (compareOp op) r dr) (ho' : OO X (compareOp op') r' dr') (ha : EE X a ta da) (hb : EE X b tb db) (hc : EE X c tc dc)
    (hm : lastMarks [op, op'] [b, c] = false := by with_unfolding_all rfl) : EE X (.Compare a [op, op'] [b, c] pos) (tChain r r' ta tb tc) (dChain dr dr' da db dc) := ⟨pe_chain ho.p ho'.p ha.p hb.p hc.p hm, lift_chain ho.l ho'.l ha.l hb.l hc.l⟩
theorem b_chain {op op' : CmpOp} {a b c : Expr} {r r' : R2} {dr dr' : DR2} {ta tb tc : TE} {da db dc : DTE} {pos : Pos} (ho : OO X (compareOp op) r dr) (ho' : OO X (compareOp op') r' dr') (ha : EE X a ta da) (hb : EE X b tb db) (hc : EE X c tc dc)
    (hm : lastMarks [op, op'] [b, c] = false := by with_unfolding_all rfl) : BB X (.Compare a [op, op'] [b, c] pos) (tTest (tChain r r' ta tb tc)) (dBool (dChain dr dr' da db dc)) := ⟨pt_chain ho.p ho'.p ha.p hb.p hc.p hm, lift_test (lift_chain ho.l ho'.l ha.l hb.l hc.l)⟩
/-! ### and, or, not as values -/
def dAndV (a b : DTE) : DTE := fun E M Q => a E M fun x E1 M1 => ∃ k : Bool, x = .v (.bl k) ∧ if k = true then b E1 M1 Q else Q (.v (.bl false)) E1 M1
def dOrV (a b : DTE) : DTE := fun E M Q => a E M fun x E1 M1 => ∃ k : Bool, x = .v (.bl k) ∧ if k = true then Q (.v (.bl true)) E1 M1 else b E1 M1 Q
def dNotV (a : DTE) : DTE := fun E M Q => a E M fun x E1 M1 => match x with
  | .v (.bl b) => Q (.v (.bl (!b))) E1 M1
  | _ => False
theorem e_one {op} {a : Expr} {t : TE} {d : DTE} {pos : Pos} (h : EE X a t d) : EE X (.BoolOp op [a] pos) t d := ⟨pe_one h.p, h.l⟩
theorem e_and {a b : Expr} {rest : List Expr} {ta tb : TE} {da db : DTE} {pos : Pos} (ha : EE X a ta da) (hb : EE X (.BoolOp .And (b :: rest) pos) tb db) : EE X (.BoolOp .And (a :: b :: rest) pos) (tAndV ta tb) (dAndV da db) := by
  refine ⟨pe_and ha.p hb.p, ?_⟩
  intro F σ H E M Q P A h k
  refine ha.l F σ H E M _ _ A h fun F1 H1 E1 M1 x v s1 A1 r1 h1 => ?_
  obtain ⟨kc, ek, h1⟩ := h1
  subst ek
  cases kc
  case true =>
    rw [if_pos rfl] at h1
    refine ⟨true, Rep.v_eq r1, ?_⟩
    rw [if_pos rfl]
    exact hb.l F1 σ H1 E1 M1 _ _ A1 h1 fun F2 H2 E2 M2 y u s2 A2 r2 h2 => k F2 H2 E2 M2 y u (s1.trans s2) A2 r2 h2
  case false =>
    rw [if_neg Bool.false_ne_true] at h1
    refine ⟨false, Rep.v_eq r1, ?_⟩
    rw [if_neg Bool.false_ne_true]
    exact k F1 H1 E1 M1 _ _ s1 A1 Rep.of_v h1
theorem e_or {a b : Expr} {rest : List Expr} {ta tb : TE} {da db : DTE} {pos : Pos} (ha : EE X a ta da) (hb : EE X (.BoolOp .Or (b :: rest) pos) tb db) : EE X (.BoolOp .Or (a :: b :: rest) pos) (tOrV ta tb) (dOrV da db) := by
  refine ⟨pe_or ha.p hb.p, ?_⟩
  intro F σ H E M Q P A h k
  refine ha.l F σ H E M _ _ A h fun F1 H1 E1 M1 x v s1 A1 r1 h1 => ?_
  obtain ⟨kc, ek, h1⟩ := h1
  subst ek
  cases kc
  case true =>
    rw [if_pos rfl] at h1
    refine ⟨true, Rep.v_eq r1, ?_⟩
    rw [if_pos rfl]
    exact k F1 H1 E1 M1 _ _ s1 A1 Rep.of_v h1
  case false =>
    rw [if_neg Bool.false_ne_true] at h1
    refine ⟨false, Rep.v_eq r1, ?_⟩
    rw [if_neg Bool.false_ne_true]
    exact hb.l F1 σ H1 E1 M1 _ _ A1 h1 fun F2 H2 E2 M2 y u s2 A2 r2 h2 => k F2 H2 E2 M2 y u (s1.trans s2) A2 r2 h2
theorem e_not {a : Expr} {ta : TE} {da : DTE} {pos : Pos} (ha : EE X a ta da) : EE X (.UnaryOp .Not a pos) (tNotV ta) (dNotV da) := by
  refine ⟨pe_not ha.p, ?_⟩
  intro F σ H E M Q P A h k
  refine ha.l F σ H E M _ _ A h fun F1 H1 E1 M1 x v s1 A1 r1 h1 => ?_
  split at h1
  · exact ⟨_, Rep.v_eq r1, k F1 H1 E1 M1 _ _ s1 A1 Rep.of_v h1⟩
  · exact h1.elim
/-! ### what an expression gives, frozen -/
def dFrz (d : DTE) : DTE := fun E M Q => d E M fun x E1 M1 => match x with
  | .v (.ref a) => ∃ c, M1 a = some c ∧ match c with
    | .lst ds => Q (.lst ds) E1 (rmM M1 a)
    | .obj C ns ds => Q (.obj C ns ds) E1 (rmM M1 a)
    | _ => False
  | x => Q x E1 M1
theorem e_frz {e : Expr} {t : TE} {d : DTE} (hh : EE X e t d) : EE X e t (dFrz d) := by
  refine ⟨hh.p, ?_⟩
  intro F σ H E M Q P A h k
  refine hh.l F σ H E M _ _ A h fun F1 H1 E1 M1 x v s1 A1 r1 h1 => ?_
  split at h1
  · rename_i a
    obtain ⟨c, hM, h1⟩ := h1
    have ev := Rep.v_eq r1
    subst ev
    cases c with
    | lst ds =>
      obtain ⟨xs, hx, rr⟩ := (A1.m.mem a _ hM).2
      obtain ⟨s2, a2⟩ := A1.m.freeze hM hx
      exact k _ H1 E1 _ _ _ (s1.trans s2) ⟨a2, A1.e.mono s2.grow⟩ (Rep.lst_iff.mpr ⟨a, xs, rfl, upd_same, rr.mono s2.grow⟩) h1
    | obj C ns ds =>
      obtain ⟨dx, xs, hx, hl, rr⟩ := (A1.m.mem a _ hM).2
      obtain ⟨s2, a2⟩ := A1.m.freeze hM hx
      exact k _ H1 E1 _ _ _ (s1.trans s2) ⟨a2, A1.e.mono s2.grow⟩ (Rep.obj_iff.mpr ⟨a, dx, xs, rfl, upd_same, hl, rr.mono s2.grow⟩) h1
    | dct kvs => exact h1.elim
  · exact k F1 H1 E1 M1 _ _ s1 A1 r1 h1
/-- behind a statement: the list in the j-th field of the instance in slot i is data from here on -/
def dThenF (i j : Nat) (d : DTS) : DTS := fun A E M => d { A with nx := fun E1 M1 => ∃ a C ns ds p zs, E1[i]? = some (some (.v (.ref a))) ∧ M1 a = some (.obj C ns ds) ∧ ds[j]? = some (.v (.ref p)) ∧ M1 p = some (.lst zs) ∧ p ≠ a ∧ A.nx E1 (updM (rmM M1 p) a (.obj C ns (ds.set j (.lst zs)))) } E M
theorem s_frzF {st : Stmt} {t : TS} {d : DTS} (i j : Nat) (hh : SS X st t d) : SS X st t (dThenF i j d) := by
  refine ⟨hh.p, fun F σ H E M A P a0 h k kr => ?_⟩
  refine hh.l F σ H E M _ P a0 h (fun F1 σ1 H1 E1 M1 s1 a1 => ⟨fun q => ?_, fun q => (k F1 σ1 H1 E1 M1 s1 a1).2.1 q, fun q => (k F1 σ1 H1 E1 M1 s1 a1).2.2 q⟩) fun F1 H1 M1 r v s1 a1 r1 q => kr F1 H1 M1 r v s1 a1 r1 q
  obtain ⟨a, C, ns, ds, p, zs, e1, hM, hd, hp, ne, q⟩ := q
  obtain ⟨ws, hw, rw'⟩ := (a1.m.mem p _ hp).2
  obtain ⟨s2, m2⟩ := a1.m.freeze hp hw
  have hM2 : rmM M1 p a = some (.obj C ns ds) := by rw [rmM_ne (Ne.symm ne)]; exact hM
  obtain ⟨dx, xs, hx, hl, rr⟩ := (m2.mem a _ hM2).2
  obtain ⟨v, e2, e3⟩ := rr.get hd
  have ev := Rep.v_eq e3
  subst ev
  have rl : Rep X.K (upd F1 p (.lst ws)) (.lst zs) (.ref p) := Rep.lst_iff.mpr ⟨p, ws, rfl, upd_same, rw'.mono s2.grow⟩
  have same : upd H1 a (.ins C dx (ns.zip xs)) = H1 := by
    funext b
    by_cases hb : b = a
    · subst hb; rw [upd_same, hx]
    · rw [upd_ne hb]
  have rr2 := RepL.set rl j rr
  rw [set_same e2] at rr2
  obtain ⟨s3, m3⟩ := m2.write (o := .ins C dx (ns.zip xs)) (c := .obj C ns (ds.set j (.lst zs))) hM2 ⟨dx, xs, upd_same, by rw [List.length_set]; exact hl, rr2⟩
  rw [same] at s3 m3
  exact (k _ σ1 H1 E1 _ ((s1.trans s2).trans s3) ⟨m3, a1.e.mono s2.grow⟩).1 q
/-! ### methods of one's own classes -/
/-- a method of the class at C by its name -/
structure Me (P : Program) (w : World) (K : PySem.W.Frag) (mg : Str → Option Value) (base : Heap) (CX : CXT) (k : Nat) (C : Addr) (m : Str) (ps : List Str) (dvs : List V) (dsp : DSp) : Prop where
  cl : Cls K C
  ex : ∃ f fd ds, Meth K C m f ∧ FnOk P w K mg base CX k f fd ps (upSp K dsp) ∧ Vals dvs ds ∧ Binds K fd ps ds
def dOwn (C : Addr) (m : Str) (dsp : DSp) (dvs : List V) (XE : DXK) (de : DTE) (da : DTA) : DTE := fun E M Q => de E M fun x E1 M1 => match x with
  | .obj C' ns _ => C' = C ∧ m ∉ ns ∧ da E1 M1 fun ds E2 M2 => dsp (x :: (ds ++ dvs.map D.v)) M2 (fun d M3 => Q d E2 M3) XE
  | .v (.ref a) => (∃ ns ds, M1 a = some (.obj C ns ds) ∧ m ∉ ns) ∧ da E1 M1 fun ds E2 M2 => dsp (x :: (ds ++ dvs.map D.v)) M2 (fun d M3 => Q d E2 M3) XE
  | _ => False
theorem lookup_zip_none {m : Str} : ∀ {ns : List Str} {xs : List V}, m ∉ ns → (ns.zip xs).lookup m = none
  | [], _, _ => rfl
  | _ :: _, [], _ => rfl
  | n :: ns, x :: xs, h => by
    rw [List.zip_cons_cons, List.lookup_cons]
    have h1 : (m == n) = false := beq_eq_false_iff_ne.mpr fun z => h (by rw [z]; exact List.mem_cons_self)
    rw [h1]
    exact lookup_zip_none fun z => h (List.mem_cons_of_mem _ z)
theorem lift_own {K : PySem.W.Frag} {C : Addr} {m : Str} {dsp : DSp} {dvs : List V} {te : TE} {de : DTE} {t : TA} {d : DTA} (le : LiftE K te de) (l : LiftA K t d) : LiftE K (tMeth C m (upSp K dsp) dvs E0 te t) (dOwn C m dsp dvs X0 de d) := by
  intro F σ H E M Q P A h k
  refine le F σ H E M _ _ A h fun F1 H1 E1 M1 x v s1 A1 r1 h1 => ?_
  have go : ∀ {x : D} {v : V}, Rep K F1 x v → d E1 M1 (fun ds E2 M2 => dsp (x :: (ds ++ dvs.map D.v)) M2 (fun d M3 => Q d E2 M3) X0) → t σ H1 fun vs H2 => upSp K dsp (v :: (vs ++ dvs)) H2 P E0 := fun {x v} r1 h1 => by
    refine l F1 σ H1 E1 M1 _ _ A1 h1 fun F2 H2 E2 M2 rs vs s2 A2 r2 h2 => ?_
    refine ⟨F2, M2, x :: (rs ++ dvs.map D.v), _, X0, A2.m, .cons (r1.mono s2.grow) (r2.append RepL.of_vs), h2, fun F3 H3 M3 d v s3 A3 r3 h3 => ?_, fun _ _ _ _ _ _ _ _ _ z => z⟩
    exact k F3 H3 E2 M3 d v ((s1.trans s2).trans s3) ⟨A3, A2.e.mono s3.grow⟩ r3 h3
  split at h1
  · rename_i C' ns ds
    obtain ⟨eC, hm, h1⟩ := h1
    subst eC
    have r1' := r1
    obtain ⟨a, dx, xs, rfl, ha, hl, rr⟩ := Rep.obj_iff.mp r1
    exact ⟨a, dx, _, rfl, A1.m.same _ _ ha, lookup_zip_none hm, go r1' h1⟩
  · rename_i a
    obtain ⟨⟨ns, ds, hM, hm⟩, h1⟩ := h1
    have ev := Rep.v_eq r1
    subst ev
    obtain ⟨dx, xs, hx, hl, rr⟩ := (A1.m.mem a _ hM).2
    exact ⟨a, dx, _, rfl, hx, lookup_zip_none hm, go r1 h1⟩
  · exact h1.elim
theorem e_own {pl : Sem Bool} {k : Nat} {C : Addr} {m : Str} {ps : List Str} {dvs : List V} {dsp : DSp} {o e : Expr} {es : List Expr} {te : TE} {de : DTE} {t : TA} {d : DTA} {apos pos : Pos} (G : Me X.prog X.w X.K X.mg X.base CX0 k C m ps dvs dsp) (hr : Room k X.A) (ho : EE X o te de) (ha : AA X (e :: es) t d)
    (hst : starEach (e :: es) X.env = (false, eval e X.env) :: starEach es X.env := by rfl) (hpl : (backTo pos (starEach es X.env)).any (·.1) = false := by rfl)
    (ht : eval (.Call (.Attribute o m apos) (e :: es) [] pos) X.env = (do
      let ov ← eval o X.env
      standAt apos.atName
      let (f, first) ← holding [ov] (getMethod ov m pl)
      callWith pos f first (backTo pos (starEach (e :: es) X.env)) (backToKw pos (keywordEach [] X.env))) := by rfl) :
    EE X (.Call (.Attribute o m apos) (e :: es) [] pos) (tMeth C m (upSp X.K dsp) dvs E0 te t) (dOwn C m dsp dvs X0 de d) := by
  obtain ⟨f, fd, ds, hm, F, hd, hb⟩ := G.ex
  exact ⟨pe_meth ho.p G.cl hm F hr hb hd pass0 ha.p hst hpl ht, lift_own ho.l ha.l⟩
theorem e_own0 {pl : Sem Bool} {k : Nat} {C : Addr} {m : Str} {ps : List Str} {dvs : List V} {dsp : DSp} {o : Expr} {te : TE} {de : DTE} {apos pos : Pos} (G : Me X.prog X.w X.K X.mg X.base CX0 k C m ps dvs dsp) (hr : Room k X.A) (ho : EE X o te de)
    (ht : eval (.Call (.Attribute o m apos) [] [] pos) X.env = (do
      let ov ← eval o X.env
      standAt apos.atName
      let (f, first) ← holding [ov] (getMethod ov m pl)
      callWith pos f first (backTo pos (starEach [] X.env)) (backToKw pos (keywordEach [] X.env))) := by rfl) :
    EE X (.Call (.Attribute o m apos) [] [] pos) (tMeth C m (upSp X.K dsp) dvs E0 te tNil) (dOwn C m dsp dvs X0 de dANil) := by
  obtain ⟨f, fd, ds, hm, F, hd, hb⟩ := G.ex
  exact ⟨pe_meth0 ho.p G.cl hm F hr hb hd pass0 ht, lift_own ho.l fun F σ H E M Q P A h k => k F H E M [] [] Step.refl A RepL.nil h⟩
/-! ### a module's constant -/
theorem e_glob {x : Str} {v : V} {u : Value} {pos : Pos} (hm : X.mg x = some u) (r : RelV v u) (hg : Gl X x := by rfl) (hd : (x == ("__debug__" : Str)) = false := by decide) : EE X (.Name x pos) (tC v) (dC v) := ⟨pe_glob hg hm r hd, lift_c v⟩
/-! ### isinstance -/
inductive Ty where
  | int | bool | str | list | tuple
def Ty.name : Ty → String
  | .int => "int"
  | .bool => "bool"
  | .str => "str"
  | .list => "list"
  | .tuple => "tuple"
def isI : D → Ty → Bool
  | .v (.int _), .int => true
  | .v (.bl _), .int => true
  | .v (.bl _), .bool => true
  | .v (.str _), .str => true
  | .lst _, .list => true
  | .ro _, .list => true
  | .tup _, .tuple => true
  | _, _ => false
def kindI : D → Option String
  | .v .non => some "NoneType"
  | .v (.bl _) => some "bool"
  | .v (.int _) => some "int"
  | .v (.str _) => some "str"
  | .tup _ => some "tuple"
  | .lst _ => some "list"
  | .ro _ => some "list"
  | _ => none
def knownI (d : D) : Bool := (kindI d).isSome
theorem kit_all : ∀ T : Ty, kitB "NoneType" T.name = some false ∧ kitB "bool" T.name = some (match T with | .int => true | .bool => true | _ => false) ∧ kitB "int" T.name = some (match T with | .int => true | _ => false) ∧
    kitB "str" T.name = some (match T with | .str => true | _ => false) ∧ kitB "tuple" T.name = some (match T with | .tuple => true | _ => false) ∧ kitB "list" T.name = some (match T with | .list => true | _ => false) := by
  intro T
  cases T <;> decide +kernel
theorem kit_I {K : PySem.W.Frag} {d : D} {k : String} (h : kindI d = some k) (T : Ty) : PySem.W.kitOne K (.type k) (.type T.name) = some (isI d T) := by
  obtain ⟨h1, h2, h3, h4, h5, h6⟩ := kit_all T
  apply kit_ty
  cases d with
  | v y => cases y <;> cases h <;> first | (rw [h1]; cases T <;> rfl) | (rw [h2]; cases T <;> rfl) | (rw [h3]; cases T <;> rfl) | (rw [h4]; cases T <;> rfl)
  | tup ds => cases h; rw [h5]; cases T <;> rfl
  | lst ds => cases h; rw [h6]; cases T <;> rfl
  | ro ds => cases h; rw [h6]; cases T <;> rfl
  | obj C ns ds => cases h
end
end DS

set_option Elab.async false
set_option linter.all false
set_option maxRecDepth 100000
set_option maxHeartbeats 2000000
/-! DS10: isinstance, displays of dicts, list of a dict's values, int(..), dict(..). -/
namespace DS
open PySem PySem.Spec PyProof.Rows L2
section
variable {X : Cx}
/-! ### isinstance -/
theorem tyx_at {K : PySem.W.Frag} {F H : Hp} {M : Mem} {d : D} {x : V} {k : String} (A : MAbs K F H M) (r : Rep K F d x) (h : kindI d = some k) : TyX K H x (.type k) := by
  have sqt : ∀ {a : Addr} {xs : List V}, SqT K H a xs → TyX K H (.ref a) (.type "tuple") := fun s => by
    rcases s with (s | ⟨o, s⟩) | ⟨o, its, n, e, c, _⟩
    · exact .base (.tup s)
    · exact .fTuple s
    · exact .kTuple e c
  have sql : ∀ {a : Addr} {xs : List V}, SqL K H a xs → TyX K H (.ref a) (.type "list") := fun s => by
    rcases s with (s | ⟨o, s⟩) | ⟨o, its, n, e, c, _⟩
    · exact .base (.lst s)
    · exact .base (.frz s)
    · exact .kList e c
  cases d with
  | v y =>
    rw [Rep.v_eq r]
    cases y with
    | non => cases h; exact .base .non
    | bl b => cases h; exact .base (.bl b)
    | int i => cases h; exact .base (.int i)
    | str z => cases h; exact .base (.str z)
    | _ => cases h
  | tup ds => cases h; obtain ⟨a, xs, rfl, s, _⟩ := Rep.tup_iff.mp r; exact sqt (A.tupF s)
  | lst ds => cases h; obtain ⟨a, xs, rfl, s, _⟩ := Rep.lst_iff.mp r; exact sql (SqL.of (A.same _ _ s))
  | ro ds => cases h; obtain ⟨a, xs, rfl, s, _⟩ := Rep.ro_iff.mp r; exact sql (A.lstF s)
  | obj C ns ds => cases h
/-- isinstance(e, T), T a built-in class -/
def dIsi (T : Ty) (de : DTE) : DTE := fun E M Q => de E M fun x E1 M1 => knownI x = true ∧ Q (.v (.bl (isI x T))) E1 M1
theorem lift_isi {K : PySem.W.Frag} {te : TE} {de : DTE} {T : Ty} (l : LiftE K te de) : LiftE K (tCB (rIsi K) (tCons te (tCons (tC (.ty T.name)) tNil))) (dIsi T de) := by
  intro F σ H E M Q P A h k
  refine l F σ H E M _ _ A h fun F1 H1 E1 M1 x v s1 A1 r1 h1 => ?_
  obtain ⟨hk, q⟩ := h1
  unfold knownI at hk
  cases e : kindI x with
  | none => rw [e] at hk; cases hk
  | some kk => exact ⟨v, .ty T.name, .type kk, .type T.name, isI x T, rfl, .ty _, tyx_at A1.m r1 e, kit_I e T, k F1 H1 E1 M1 _ _ s1 A1 Rep.of_v q⟩
theorem e_isiT1 (T : Ty) {x : Str} {p p1 pos : Pos} {e : Expr} {te : TE} {de : DTE} (hm : X.mg "isinstance" = none) (hT : X.mg x = none) (he : EE X e te de) (hg : Gl X "isinstance" := by rfl) (hgT : Gl X x := by rfl) (hv : bootBuiltins x = some (.type T.name) := by decide +kernel) (hn : x ≠ "__name__" := by decide) (hdb : (x == ("__debug__" : Str)) = false := by decide)
    (h1 : starEach [e, .Name x p1] X.env = (false, eval e X.env) :: starEach [.Name x p1] X.env := by rfl) (h2 : starEach [.Name x p1] X.env = (false, eval (.Name x p1) X.env) :: starEach [] X.env := by rfl) (hpl : (backTo pos (starEach [.Name x p1] X.env)).any (·.1) = false := by rfl) :
    EE X (.Call (.Name "isinstance" p) [e, .Name x p1] [] pos) (tCB (rIsi X.K) (tCons te (tCons (tC (.ty T.name)) tNil))) (dIsi T de) :=
  ⟨pe_callB call_isi hg hm (by decide +kernel) (pa_cons he.p (pa_cons (pe_bltn hgT hT hv rfl hn hdb) pa_nil h2) h1) (by decide) (by decide) h1 hpl, lift_isi he.l⟩
/-- isinstance(e, (T, U)) -/
def dIsi2 (T U : Ty) (de : DTE) : DTE := fun E M Q => de E M fun x E1 M1 => knownI x = true ∧ Q (.v (.bl (isI x T || isI x U))) E1 M1
theorem lift_isi2 {K : PySem.W.Frag} {te : TE} {de : DTE} {T U : Ty} (l : LiftE K te de) : LiftE K (tCB (rIsiT K) (tCons te (tCons (tTup (tCons (tC (.ty T.name)) (tCons (tC (.ty U.name)) tNil))) tNil))) (dIsi2 T U de) := by
  intro F σ H E M Q P A h k
  refine l F σ H E M _ _ A h fun F1 H1 E1 M1 x v s1 A1 r1 h1 => ?_
  obtain ⟨hk, q⟩ := h1
  unfold knownI at hk
  refine ⟨by show 2 ≤ sizeLine; decide, fun p hp => ?_⟩
  obtain ⟨s2, a2⟩ := A1.m.froz (o := .tup [V.ty T.name, V.ty U.name]) hp
  cases e : kindI x with
  | none => rw [e] at hk; cases hk
  | some kk =>
    refine ⟨v, p, _, .type kk, [.type T.name, .type U.name], isI x T || isI x U, rfl, upd_same, .cons (.ty _) (.cons (.ty _) .nil), tyx_at a2 (r1.mono s2.grow) e, ?_, k _ _ E1 M1 _ _ (s1.trans s2) ⟨a2, A1.e.mono s2.grow⟩ Rep.of_v q⟩
    refine kitAny_cons (kit_I e T) (fun z => ?_) fun z => by rw [z]; rfl
    refine kitAny_cons (kit_I e U) (fun w => ?_) fun w => by rw [w, Bool.or_true]
    rw [z, w]
    exact kitAny_nil
theorem e_isiT2 (T U : Ty) {x y : Str} {p p1 p2 tp pos : Pos} {kk} {e : Expr} {te : TE} {de : DTE} (hm : X.mg "isinstance" = none) (hT : X.mg x = none) (hU : X.mg y = none) (he : EE X e te de) (hg : Gl X "isinstance" := by rfl) (hgT : Gl X x := by rfl) (hv : bootBuiltins x = some (.type T.name) := by decide +kernel) (hn : x ≠ "__name__" := by decide) (hdb : (x == ("__debug__" : Str)) = false := by decide)
    (hgU : Gl X y := by rfl) (hvU : bootBuiltins y = some (.type U.name) := by decide +kernel) (hnU : y ≠ "__name__" := by decide) (hdbU : (y == ("__debug__" : Str)) = false := by decide)
    (h1 : starEach [e, .Tuple [.Name x p1, .Name y p2] kk tp] X.env = (false, eval e X.env) :: starEach [.Tuple [.Name x p1, .Name y p2] kk tp] X.env := by rfl) (h2 : starEach [.Tuple [.Name x p1, .Name y p2] kk tp] X.env = (false, eval (.Tuple [.Name x p1, .Name y p2] kk tp) X.env) :: starEach [] X.env := by rfl)
    (h3 : starEach [.Name x p1, .Name y p2] X.env = (false, eval (.Name x p1) X.env) :: starEach [.Name y p2] X.env := by rfl) (h4 : starEach [.Name y p2] X.env = (false, eval (.Name y p2) X.env) :: starEach [] X.env := by rfl)
    (hpl : (backTo pos (starEach [.Tuple [.Name x p1, .Name y p2] kk tp] X.env)).any (·.1) = false := by rfl) :
    EE X (.Call (.Name "isinstance" p) [e, .Tuple [.Name x p1, .Name y p2] kk tp] [] pos) (tCB (rIsiT X.K) (tCons te (tCons (tTup (tCons (tC (.ty T.name)) (tCons (tC (.ty U.name)) tNil))) tNil))) (dIsi2 T U de) :=
  ⟨pe_callB call_isiT hg hm (by decide +kernel) (pa_cons he.p (pa_cons (pe_tup (pa_cons (pe_bltn hgT hT hv rfl hn hdb) (pa_cons (pe_bltn hgU hU hvU rfl hnU hdbU) pa_nil h4) h3)) pa_nil h2) h1) (by decide) (by decide) h1 hpl, lift_isi2 he.l⟩
/-! ### int(..) -/
def dInt : DRL := fun xs M Q => match xs with
  | [.v (.int i)] => Q (.v (.int i)) M
  | [.v (.bl b)] => Q (.v (.int (if b then 1 else 0))) M
  | _ => False
theorem c_int : CB X (.type "int") (fun xs H Q => (∃ i, xs = [.int i] ∧ Q (.int i) H) ∨ ∃ k, xs = [.bl k] ∧ Q (.int (if k then 1 else 0)) H) dInt := by
  refine ⟨call_int1, ?_⟩
  intro F H M ds xs Q P A r h k
  unfold dInt at h
  split at h
  · obtain ⟨x, rfl, q⟩ := r.one
    rw [Rep.v_eq q]
    exact .inl ⟨_, rfl, k F H M _ _ Step.refl A Rep.of_v h⟩
  · obtain ⟨x, rfl, q⟩ := r.one
    rw [Rep.v_eq q]
    exact .inr ⟨_, rfl, k F H M _ _ Step.refl A Rep.of_v h⟩
  · exact h.elim
/-! ### str(int) -/
def dStr : DRL := fun xs M Q => match xs with
  | [.v (.int i)] => i.natAbs.log2 < 1920 ∧ Q (.v (.str (toString i))) M
  | _ => False
theorem c_str : CB X (.type "str") (fun xs H Q => ∃ i, xs = [.int i] ∧ i.natAbs.log2 < 1920 ∧ Q (.str (toString i)) H) dStr := by
  refine ⟨call_str_int, ?_⟩
  intro F H M ds xs Q P A r h k
  unfold dStr at h
  split at h
  · obtain ⟨x, rfl, q⟩ := r.one
    rw [Rep.v_eq q]
    exact ⟨_, rfl, h.1, k F H M _ _ Step.refl A Rep.of_v h.2⟩
  · exact h.elim
/-! ### {k: v, ..} -/
def mergeD (kvs more : List (Key × D)) : List (Key × D) := more.foldl (fun acc kv => putD acc kv.1 kv.2) kvs
theorem mergeD_at {K : PySem.W.Frag} {F : Hp} : ∀ {more : List (Key × D)} {mv : List (Key × V)} {kvs : List (Key × D)} {ks : List (Key × V)}, RepP K F more mv → RepP K F kvs ks → RepP K F (mergeD kvs more) (mergeK ks mv)
  | [], _, _, _, .nil, r => r
  | p :: more, _, kvs, ks, .cons (b := q) h t, r => by
    have e : p.1 = q.1 := h.1
    show RepP K F (mergeD (putD kvs p.1 p.2) more) (mergeK (putK ks q.1 q.2) _)
    rw [← e]
    exact mergeD_at t (putD_at r p.1 h.2)
abbrev DPs := DEnv → Mem → (List (Key × D) → DEnv → Mem → Prop) → Prop
def LiftPs (K : PySem.W.Frag) (t : List (TE × TE)) (d : DPs) : Prop := ∀ (F : Hp) (σ : L2.St) (H : Hp) (E : DEnv) (M : Mem) (Q : List (Key × D) → DEnv → Mem → Prop) (P : List (V × V) → Hp → Prop), Abs K F σ H E M → d E M Q →
  (∀ F' H' E' M' kvs mv, Step F H M F' H' M' → Abs K F' σ H' E' M' → RepP K F' kvs mv → Q kvs E' M' → P (mv.map fun kv => (kV kv.1, kv.2)) H') → tPairs t σ H P
structure DD (X : Cx) (pos : Pos) (keys : List (Option Expr)) (values : List Expr) (t : List (TE × TE)) (d : DPs) : Prop where
  p : PPs X pos keys values t
  l : LiftPs X.K t d
def dPNil : DPs := fun E M Q => Q [] E M
def dPCons (dk dv : DTE) (dr : DPs) : DPs := fun E M Q => dk E M fun x E1 M1 => dv E1 M1 fun y E2 M2 => ∃ κ : Key, x = .v (kV κ) ∧ dr E2 M2 fun kvs E3 M3 => Q ((κ, y) :: kvs) E3 M3
theorem d_nil {pos : Pos} : DD X pos [] [] [] dPNil := ⟨pps_nil, fun F σ H E M Q P A h k => k F H E M [] [] Step.refl A .nil h⟩
theorem d_cons {pos : Pos} {k v : Expr} {ks : List (Option Expr)} {vs : List Expr} {tk tv : TE} {dk dv : DTE} {trs : List (TE × TE)} {dr : DPs} (hk : EE X k tk dk) (hv : EE X v tv dv) (hr : DD X pos ks vs trs dr) : DD X pos (some k :: ks) (v :: vs) ((tk, tv) :: trs) (dPCons dk dv dr) := by
  refine ⟨pps_cons hk.p hv.p hr.p, ?_⟩
  intro F σ H E M Q P A h kk
  refine hk.l F σ H E M _ _ A h fun F1 H1 E1 M1 x vx s1 A1 r1 h1 => ?_
  refine hv.l F1 σ H1 E1 M1 _ _ A1 h1 fun F2 H2 E2 M2 y vy s2 A2 r2 h2 => ?_
  obtain ⟨κ, rfl, h2⟩ := h2
  refine hr.l F2 σ H2 E2 M2 _ _ A2 h2 fun F3 H3 E3 M3 kvs mv s3 A3 r3 h3 => ?_
  rw [Rep.v_eq r1]
  exact kk F3 H3 E3 M3 ((κ, y) :: kvs) ((κ, vy) :: mv) ((s1.trans s2).trans s3) A3 (.cons ⟨rfl, r2.mono s3.grow⟩ r3) h3
def dDct (d : DPs) : DTE := fun E M Q => ∀ p, M p = none → d E (updM M p (.dct [])) fun kvs E1 M1 => M1 p = some (.dct []) ∧ kvs.length ≤ 15 ∧ Q (.v (.ref p)) E1 (updM M1 p (.dct (mergeD [] kvs)))
theorem e_dct {pos : Pos} {keys : List (Option Expr)} {values : List Expr} {trs : List (TE × TE)} {d : DPs} (h : DD X pos keys values trs d) (hall : keys.all (·.isSome) = true := by rfl) (hl : keys.length = values.length := by rfl) (h0 : keys ≠ [] := by exact fun z => by cases z) (h15 : keys.length ≤ 15 := by decide) : EE X (.Dict keys values pos) (tDisp trs) (dDct d) := by
  refine ⟨pe_disp h.p hall hl h0 h15, ?_⟩
  intro F σ H E M Q P A hd k p hp
  obtain ⟨s1, m1⟩ := A.m.cell (o := .dK []) (c := .dct []) hp ⟨[], upd_same, .nil⟩
  refine h.l F σ _ E _ _ _ ⟨m1, A.e⟩ (hd p (A.m.free hp).2) fun F2 H2 E2 M2 kvs mv s2 A2 r2 h2 => ?_
  obtain ⟨hM, h15', q⟩ := h2
  obtain ⟨ks, e, rr⟩ := (A2.m.mem p _ hM).2
  cases rr
  obtain ⟨s3, m3⟩ := A2.m.write (o := .dK (mergeK [] mv)) (c := .dct (mergeD [] kvs)) hM ⟨_, upd_same, mergeD_at r2 .nil⟩
  exact ⟨e, mv, rfl, by rw [← paired_len r2]; exact h15', k _ _ E2 _ _ _ ((s1.trans s2).trans s3) ⟨m3, A2.e.mono s3.grow⟩ Rep.of_v q⟩
/-! ### list(d.values()) -/
def tListVals (te : TE) : TE := fun σ H Q => te σ H fun x H1 => ∃ d kvs, x = .ref d ∧ H1 d = some (.dK kvs) ∧ ∀ p, H1 p = none → Q (.ref p) (upd H1 p (.lst (kvs.map (·.2))))
theorem vals_of_map : ∀ {kvs : List (Key × V)} {vs : List (Key × Value)}, KV kvs vs → Vals (kvs.map (·.2)) (vs.map (·.2))
  | _, _, .nil => .nil
  | _, _, .cons r t => .cons r.2 (vals_of_map t)
theorem pe_listVals {e : Expr} {te : TE} {p apos cpos pos : Pos} (hc : X.calm = true) (he : PE X e te) (hg : Gl X "list") (hm : X.mg "list" = none) (hv : bootBuiltins "list" = some (.type "list")) (hbase : attributeBase e "values" X.env (eval e X.env) = eval e X.env := by rfl) (hline : (apos.endLine == cpos.line) = true := by rfl)
    (hs : starEach [.Call (.Attribute e "values" apos) [] [] cpos] X.env = (false, eval (.Call (.Attribute e "values" apos) [] [] cpos) X.env) :: starEach [] X.env := by rfl) :
    PE X (.Call (.Name "list" p) [.Call (.Attribute e "values" apos) [] [] cpos] [] pos) (tListVals te) := by
  refine ⟨fun pins s σ H Q I hq => ?_⟩
  refine wpAny_Call_Name_kw (ld_blt I hg hm hv ?_)
  refine PyProof.Rows.callWith_type1 ?_ hs rfl
  rw [hs]
  show wpAny _ _ (spliced ((false, eval (.Call (.Attribute e "values" apos) [] [] cpos) X.env) :: backTo pos (starEach [] X.env))) _ _ s
  refine Calls.spliced_cons ?_
  refine wpAny_Call_method (T := "dict") (id := "dict.values") hbase rfl hline F.plainAttrs_dict F.slot_dict_values F.type_dict_values (thn (he.run pins s σ H _ I hq) fun u s1 ⟨x, H1, I1, rx, d, kvs, ex, hd, q⟩ => ?_)
  subst ex
  obtain rfl : u = Value.ref d := rx
  obtain ⟨hz, hs0, vs, kv, hdo⟩ := I1.hok d _ hd
  obtain ⟨ep, hat⟩ := hdo.dictAt
  have lk : kvs.length = vs.length := Paired.length kv
  have I2 : Inv X pins σ H1 { s1 with heap := s1.heap.push { cls := .type "dict_values", data := .fields #[.ref d] } } := I1.kept (t' := s1.toks) fun b ob q => Heap.get?_push_of_some _ q
  refine ⟨hdo.typeIs, hdo.mapOf.noDict, ?_⟩
  show wpAny _ _ (callWith cpos (.builtin "dict.values") [.ref d] [] []) _ X.xe s1
  refine method_meetsIn F.slot_dict_values F.entry_dict_values rfl (PySem.evalArgs_none ⟨rfl, hdo.typeIs, F.args_dict_values_1 _, _, meets_dict_values (mixKind X.prog X.w) d hs0, ⟨vs, hdo⟩, ?_⟩)
  refine Calls.spliced_nil ?_
  refine PySem.W.kdl_call (PySem.W.kdl_values (knd := mixKind X.prog X.w) (kvs := vs) (ep := ep) (r := s1.heap.objs.size) (d := d)) (I1.ok.hd hc) ⟨⟨_, Heap.get?_push_size _ rfl, rfl, rfl⟩, hat.push _⟩ (by omega) fun h' tk acc c hk hS hacc => ?_
  have ea : acc.toList = vs.map (·.2) := PySem.W.kdl_vals_eq acc.toList (by rw [Array.length_toList]; exact hacc.1) fun j v e => hacc.2 j v (by rw [← Array.getElem?_toList]; exact e)
  have rv : Vals (kvs.map (·.2)) acc.toList := by rw [ea]; exact vals_of_map kv
  refine ⟨.ref _, _, I2.laid (t' := tk) (o := .lst (kvs.map (·.2))) hk (Nat.le_refl _) ⟨by rw [List.length_map]; exact hz, acc.toList, c, rv, by rw [Array.toArray_toList]; exact hS⟩, rfl, q _ (I2.hok.fresh (Nat.le_refl _))⟩
def dListVals (de : DTE) : DTE := fun E M Q => de E M fun x E1 M1 => match x with
  | .v (.ref a) => ∃ kvs, M1 a = some (.dct kvs) ∧ Q (.lst (valsD kvs)) E1 M1
  | _ => False
theorem repL_vals {K : PySem.W.Frag} {F : Hp} : ∀ {kvs : List (Key × D)} {ks : List (Key × V)}, RepP K F kvs ks → RepL K F (valsD kvs) (ks.map (·.2))
  | [], _, .nil => RepL.nil
  | p :: kvs, _, .cons h t => .cons h.2 (repL_vals t)
theorem e_listVals {e : Expr} {te : TE} {de : DTE} {p apos cpos pos : Pos} (hm : X.mg "list" = none) (he : EE X e te de) (hc : X.calm = true := by rfl) (hg : Gl X "list" := by rfl) (hbase : attributeBase e "values" X.env (eval e X.env) = eval e X.env := by rfl) (hline : (apos.endLine == cpos.line) = true := by rfl)
    (hs : starEach [.Call (.Attribute e "values" apos) [] [] cpos] X.env = (false, eval (.Call (.Attribute e "values" apos) [] [] cpos) X.env) :: starEach [] X.env := by rfl) :
    EE X (.Call (.Name "list" p) [.Call (.Attribute e "values" apos) [] [] cpos] [] pos) (tListVals te) (dListVals de) := by
  refine ⟨pe_listVals hc he.p hg hm (by decide +kernel) hbase hline hs, ?_⟩
  intro F σ H E M Q P A h k
  refine he.l F σ H E M _ _ A h fun F1 H1 E1 M1 x v s1 A1 r1 h1 => ?_
  split at h1
  · rename_i a
    obtain ⟨kvs, hM, q⟩ := h1
    rw [Rep.v_eq r1]
    obtain ⟨ks, e, rr⟩ := (A1.m.mem a _ hM).2
    refine ⟨a, ks, rfl, e, fun p hp => ?_⟩
    obtain ⟨s2, a2⟩ := A1.m.froz (o := .lst (ks.map (·.2))) hp
    exact k _ _ E1 M1 _ _ (s1.trans s2) ⟨a2, A1.e.mono s2.grow⟩ (Rep.lst_iff.mpr ⟨p, _, rfl, upd_same, (repL_vals rr).mono s2.grow⟩) q
  · exact h1.elim
/-! ### for over a dict's keys, values -/
theorem s_forVals {tg : Expr} {apos cpos pos : Pos} {e : Expr} {body : List Stmt} {td : TE} {de : DTE} {g : TG} {dg : DTG} {sl : List Nat} {tb : TS} {db : DTS} (hp : PassesOwn (model X.prog X.w) X.A X.env X.xe) (hc : X.calm = true) (he : EE X e td de) (hg : GG X tg g dg sl) (hb : Ss X body tb db)
    (hbase : attributeBase e "values" X.env (eval e X.env) = eval e X.env := by rfl) (hline : (apos.endLine == cpos.line) = true := by rfl) (hs : ∀ x, foldedSetIterable (.Call (.Attribute e "values" apos) [] [] cpos) X.env x = pure x := by intro _; rfl) :
    SS X (.For tg (.Call (.Attribute e "values" apos) [] [] cpos) body [] pos) (tLock (tFor (iVals td) g tb)) (dForD valsD de dg db) :=
  ⟨ps_lock (ps_for hp hc (pi_values he.p hbase hline) hg.p hb.p hs), lift_forD (It0 := Itd) (fun r => walks_vals r) (fun σ H R z => z) he.l hg.l hb.l⟩
theorem s_forKeys {tg : Expr} {apos cpos pos : Pos} {e : Expr} {body : List Stmt} {td : TE} {de : DTE} {g : TG} {dg : DTG} {sl : List Nat} {tb : TS} {db : DTS} (hp : PassesOwn (model X.prog X.w) X.A X.env X.xe) (hc : X.calm = true) (he : EE X e td de) (hg : GG X tg g dg sl) (hb : Ss X body tb db)
    (hbase : attributeBase e "keys" X.env (eval e X.env) = eval e X.env := by rfl) (hline : (apos.endLine == cpos.line) = true := by rfl) (hs : ∀ x, foldedSetIterable (.Call (.Attribute e "keys" apos) [] [] cpos) X.env x = pure x := by intro _; rfl) :
    SS X (.For tg (.Call (.Attribute e "keys" apos) [] [] cpos) body [] pos) (tLock (tFor (iKeysM td) g tb)) (dForD keysD de dg db) :=
  ⟨ps_lock (ps_for hp hc (pi_keysM he.p hbase hline) hg.p hb.p hs), lift_forD (It0 := Itk) (fun r => walks_keys r) (fun σ H R z => z) he.l hg.l hb.l⟩
end
end DS

set_option Elab.async false
set_option linter.all false
set_option maxRecDepth 100000
set_option maxHeartbeats 2000000
/-! FR: fractions as rational numbers. -/
namespace DS
open PySem PySem.Spec PyProof.Rows L2
/-- a fraction as the program has it: in lowest terms -/
def frD (q : Rat) : D := .tup [.i q.num, .i (q.den : Nat)]
/-- numbers of so many bits -/
def Bd (k : Nat) (q : Rat) : Prop := q.num.natAbs < 2 ^ k ∧ q.den < 2 ^ k
theorem Bd.mono {j k : Nat} {q : Rat} (h : Bd j q) (hk : j ≤ k) : Bd k q := by
  have : 2 ^ j ≤ 2 ^ k := Nat.pow_le_pow_right (by decide) hk
  exact ⟨Nat.lt_of_lt_of_le h.1 this, Nat.lt_of_lt_of_le h.2 this⟩
theorem den_pos (q : Rat) : 0 < q.den := Nat.pos_of_ne_zero q.den_nz
theorem mk_parts (n : Int) {p : Int} (hp : 0 < p) : mkRat n p.toNat = mkRat n p.toNat ∧ (mkRat n p.toNat).num = n / (Nat.gcd p.natAbs n.natAbs : Nat) ∧ ((mkRat n p.toNat).den : Int) = p / (Nat.gcd p.natAbs n.natAbs : Nat) := by
  have e : p.toNat = p.natAbs := by omega
  have h0 : p.natAbs ≠ 0 := by omega
  refine ⟨rfl, ?_, ?_⟩
  · rw [Rat.num_mkRat, e, if_neg h0]
  · rw [Rat.den_mkRat, e, if_neg h0]
    rw [Int.natCast_ediv, Int.natAbs_of_nonneg (by omega : 0 ≤ p)]
theorem frD_made (n : Int) {p : Int} (hp : 0 < p) : frD (mkRat n p.toNat) = .tup [.i (n / (Nat.gcd p.natAbs n.natAbs : Nat)), .i (p / (Nat.gcd p.natAbs n.natAbs : Nat))] := by
  unfold frD
  rw [(mk_parts n hp).2.1, (mk_parts n hp).2.2]
theorem add_mk (a b : Rat) : mkRat (a.num * b.den + b.num * a.den) (((a.den : Int) * (b.den : Int)).toNat) = a + b := by
  have e : ((a.den : Int) * (b.den : Int)).toNat = a.den * b.den := by
    rw [← Int.natCast_mul]
    rfl
  rw [e, Rat.add_def, Rat.normalize_eq_mkRat]
theorem sub_mk (a b : Rat) : mkRat (a.num * b.den - b.num * a.den) (((a.den : Int) * (b.den : Int)).toNat) = a - b := by
  have e : ((a.den : Int) * (b.den : Int)).toNat = a.den * b.den := by
    rw [← Int.natCast_mul]
    rfl
  rw [e, Rat.sub_def, Rat.normalize_eq_mkRat]
theorem mul_mk (a b : Rat) : mkRat (a.num * b.num) (((a.den : Int) * (b.den : Int)).toNat) = a * b := by
  have e : ((a.den : Int) * (b.den : Int)).toNat = a.den * b.den := by
    rw [← Int.natCast_mul]
    rfl
  rw [e, Rat.mul_def, Rat.normalize_eq_mkRat]
theorem lt_dec (a b : Rat) : decide (a.num * (b.den : Int) < b.num * (a.den : Int)) = decide (a < b) := by
  rw [Bool.eq_iff_iff, decide_eq_true_iff, decide_eq_true_iff, Rat.lt_iff]
theorem mulW {i j : Int} {a b : Nat} (ha : i.natAbs < 2 ^ (a + 1)) (hb : j.natAbs < 2 ^ (b + 1)) (h : a + b ≤ 999990) : CMulW i j := wide_mul ha hb (Nat.succ_pos _) (Nat.succ_pos _) (by omega)
theorem natAbs_den (q : Rat) : ((q.den : Nat) : Int).natAbs = q.den := Int.natAbs_natCast _
/-- the products of a fraction's numbers -/
theorem bd_mul {a b : Rat} (ha : Bd 4000 a) (hb : Bd 4000 b) : CMulW a.num b.den ∧ CMulW b.num a.den ∧ CMulW a.den b.den ∧ CMulW a.num b.num ∧ 0 < (a.den : Int) * (b.den : Int) ∧ ((a.den : Int) * (b.den : Int)).natAbs < 2 ^ 9000 := by
  have d1 := den_pos a
  have d2 := den_pos b
  have ha1 : a.num.natAbs < 2 ^ (3999 + 1) := ha.1
  have ha2 : ((a.den : Nat) : Int).natAbs < 2 ^ (3999 + 1) := by rw [natAbs_den]; exact ha.2
  have hb1 : b.num.natAbs < 2 ^ (3999 + 1) := hb.1
  have hb2 : ((b.den : Nat) : Int).natAbs < 2 ^ (3999 + 1) := by rw [natAbs_den]; exact hb.2
  refine ⟨mulW ha1 hb2 (by decide), mulW hb1 ha2 (by decide), mulW ha2 hb2 (by decide), mulW ha1 hb1 (by decide), ?_, ?_⟩
  · exact Int.mul_pos (by omega) (by omega)
  · refine Nat.lt_of_lt_of_le (wide_lt ha2 hb2) ?_
    exact Nat.pow_le_pow_right (by decide) (by decide)
theorem gcd_div (n : Int) {p : Int} (hp : 0 < p) (hs : p.natAbs < 2 ^ 9000) : ∀ i, CDivW i (Nat.gcd p.natAbs n.natAbs : Nat) := fun i => by
  have hg : 0 < Nat.gcd p.natAbs n.natAbs := Nat.gcd_pos_of_pos_left _ (by omega)
  have hg2 : Nat.gcd p.natAbs n.natAbs ≤ p.natAbs := Nat.gcd_le_left _ (by omega)
  exact wide_div (b := 9000) (by omega) (by rw [Int.natAbs_natCast]; omega) (by decide) (Nat.le_refl _)
theorem abs_ite (n : Int) : (if n < 0 then -n else n) = (n.natAbs : Int) := by
  split <;> omega
end DS

set_option Elab.async false
set_option linter.all false
set_option maxRecDepth 100000
set_option maxHeartbeats 2000000
/-! LP: loops by invariants, comprehensions by filter and map, data that can be compared. -/
namespace DS
open PySem PySem.Spec PyProof.Rows L2
/-- a loop over what is a list of α as data -/
theorem loop_ind {α : Type} {f : α → D} {g : DTG} {b : DTS} {A : DEnds} (I : List α → DEnv → Mem → Prop)
    (step : ∀ x r (N : DEnv → Mem → Prop), (∀ E M, I r E M → N E M) → ∀ E M, I (x :: r) E M → g (f x) E fun E1 => b { A with nx := N, ct := N, bk := A.nx } E1 M)
    (done : ∀ E M, I [] E M → A.nx E M) : ∀ (l : List α) (E : DEnv) (M : Mem), I l E M → dLoop g b (l.map f) A E M
  | [], E, M, h => done E M h
  | x :: r, E, M, h => step x r _ (fun E M h => loop_ind I step done r E M h) E M h
/-- a comprehension that leaves the memory as it is -/
theorem comp_pure {α : Type} {f : α → D} {p : α → Bool} {h : α → D} {g : DTG} {t : DTT} {e : DTE} {vs : List Nat} {E : DEnv} {fin : List D → Mem → Prop} {M : Mem} : ∀ (l : List α) (acc : List D),
    (∀ x ∈ l, ∀ (N1 : D → Mem → Prop) (N0 : Mem → Prop), (p x = true → N1 (h x) M) → (p x = false → N0 M) → g (f x) (wipeD E vs) fun E2 => t E2 M fun b E3 M3 => if b = true then e E3 M3 fun y _ M4 => N1 y M4 else N0 M3) →
    acc.length + l.length ≤ sizeLine → fin (acc ++ (l.filter p).map h) M → dComp g t e vs E fin (l.map f) acc M
  | [], acc, _, _, q => by
    rw [List.filter_nil, List.map_nil, List.append_nil] at q
    exact q
  | x :: r, acc, step, hl, q => by
    rw [List.length_cons] at hl
    refine step x List.mem_cons_self (fun y M4 => acc.length < sizeLine ∧ dComp g t e vs E fin (r.map f) (acc ++ [y]) M4) (fun M3 => dComp g t e vs E fin (r.map f) acc M3) (fun hp => ⟨by omega, ?_⟩) fun hp => ?_
    · refine comp_pure r _ (fun y hy => step y (List.mem_cons_of_mem _ hy)) (by rw [List.length_append, List.length_singleton]; omega) ?_
      rw [List.filter_cons_of_pos hp, List.map_cons] at q
      rw [List.append_assoc]
      exact q
    · refine comp_pure r _ (fun y hy => step y (List.mem_cons_of_mem _ hy)) (by omega) ?_
      rw [List.filter_cons_of_neg (by rw [hp]; exact Bool.false_ne_true)] at q
      exact q
theorem lookup_zip {f : Str} : ∀ {ns : List Str} {xs : List V} {j : Nat}, ns.Nodup → xs.length = ns.length → ns[j]? = some f → (ns.zip xs).lookup f = xs[j]?
  | [], _, _, _, _, h => by simp at h
  | _ :: _, [], _, _, hl, _ => by cases hl
  | n :: ns, x :: xs, 0, nd, hl, h => by
    simp at h
    subst h
    rw [List.zip_cons_cons, List.lookup_cons, beq_self_eq_true]
    rfl
  | n :: ns, x :: xs, j + 1, nd, hl, h => by
    have hm : ns[j]? = some f := by simpa using h
    have h1 : (f == n) = false := beq_eq_false_iff_ne.mpr fun z => (List.nodup_cons.mp nd).1 (by rw [← z]; exact List.mem_of_getElem? hm)
    rw [List.zip_cons_cons, List.lookup_cons, h1]
    show (ns.zip xs).lookup f = _
    rw [lookup_zip (List.nodup_cons.mp nd).2 (by simpa using hl) hm]
    rfl
/-- a class whose instances have these attributes and no others of these names -/
structure TC (K : PySem.W.Frag) (C : Addr) (ns : List Str) : Prop where
  cl : Cls K C
  na : ∀ f ∈ ns, NoAttr K C f
theorem TC.fk {K : PySem.W.Frag} {C : Addr} {ns : List Str} {f : Str} (T : TC K C ns) (j : Nat) (nd : ns.Nodup := by decide) (h : ns[j]? = some f := by rfl) : Fk K C ns f j :=
  ⟨T.cl, T.na f (List.mem_of_getElem? h), fun xs hl => lookup_zip nd hl h⟩
/-! ### data that is plain, not deeper than k -/
def PL (k : Nat) (d : D) : Prop := (toPy d).canLay0 = true ∧ (toPy d).depth ≤ k
theorem PL.mono {j k : Nat} {d : D} (h : PL j d) (hk : j ≤ k) : PL k d := ⟨h.1, Nat.le_trans h.2 hk⟩
theorem PL.plain {k : Nat} {d : D} (h : PL k d) (hk : k ≤ 64) : Plain d := by
  show ((toPy d).canLay0 && decide ((toPy d).depth ≤ 64)) = true
  rw [h.1, decide_eq_true (Nat.le_trans h.2 hk)]
  rfl
theorem pl_i {k : Nat} {i : Int} : PL k (.i i) := ⟨rfl, Nat.zero_le _⟩
theorem pl_b {k : Nat} {i : Bool} : PL k (.b i) := ⟨rfl, Nat.zero_le _⟩
theorem pl_n {k : Nat} : PL k .n := ⟨rfl, Nat.zero_le _⟩
theorem pl_s {k : Nat} {x : Str} (h : PyData.strOk x = true) : PL k (.s x) := ⟨h, Nat.zero_le _⟩
theorem pl_all {k : Nat} : ∀ {ds : List D}, (∀ d ∈ ds, PL k d) → PyData.canLayAll0 (toPyL ds) = true ∧ PyData.depthAll (toPyL ds) ≤ k
  | [], _ => ⟨rfl, Nat.zero_le _⟩
  | d :: ds, h => by
    obtain ⟨h1, h2⟩ := h d List.mem_cons_self
    obtain ⟨h3, h4⟩ := pl_all fun e he => h e (List.mem_cons_of_mem _ he)
    refine ⟨?_, ?_⟩
    · show (PyData.canLay0 (toPy d) && PyData.canLayAll0 (toPyL ds)) = true
      rw [h1, h3]
      rfl
    · show max _ _ ≤ k
      exact Nat.max_le.mpr ⟨h2, h4⟩
theorem pl_tup {k : Nat} {ds : List D} (h : ∀ d ∈ ds, PL k d) : PL (k + 1) (.tup ds) := ⟨(pl_all h).1, Nat.succ_le_succ (pl_all h).2⟩
theorem pl_lst {k : Nat} {ds : List D} (h : ∀ d ∈ ds, PL k d) : PL (k + 1) (.lst ds) := ⟨(pl_all h).1, Nat.succ_le_succ (pl_all h).2⟩
theorem all_nil {p : D → Prop} : ∀ d ∈ ([] : List D), p d := fun _ h => nomatch h
theorem all_cons {p : D → Prop} {x : D} {l : List D} (h : p x) (t : ∀ d ∈ l, p d) : ∀ d ∈ x :: l, p d := fun d hd => (List.mem_cons.mp hd).elim (fun e => e ▸ h) (t d)
mutual
theorem eqv_refl0 : ∀ d : PyData, d.canLay0 = true → PyData.eqv d d = true
  | .none, _ => rfl
  | .bool b, _ => by simp [PyData.eqv]
  | .int i, _ => by simp [PyData.eqv]
  | .str x, _ => by simp [PyData.eqv]
  | .list xs, h => by rw [PyData.eqv]; exact eqvAll_refl0 xs h
  | .tuple xs, h => by rw [PyData.eqv]; exact eqvAll_refl0 xs h
  | .dict _, h => nomatch h
theorem eqvAll_refl0 : ∀ xs : List PyData, PyData.canLayAll0 xs = true → PyData.eqvAll xs xs = true
  | [], _ => rfl
  | x :: xs, h => by
    have h' : (PyData.canLay0 x && PyData.canLayAll0 xs) = true := h
    obtain ⟨h1, h2⟩ := Bool.and_eq_true_iff.mp h'
    rw [PyData.eqvAll, eqv_refl0 x h1, eqvAll_refl0 xs h2]
    rfl
end
theorem eqv_ints (a b c d : Int) : PyData.eqv (toPy (.tup [.i a, .i b])) (toPy (.tup [.i c, .i d])) = (decide (a = c) && decide (b = d)) := by
  show (_ == _ && (_ == _ && true)) = _
  rw [Bool.and_true]
  rfl
theorem eqv_strs (a b c d : Str) : PyData.eqv (toPy (.tup [.s a, .s b])) (toPy (.tup [.s c, .s d])) = (decide (a = c) && decide (b = d)) := by
  show ((a == c) && ((b == d) && true)) = _
  rw [Bool.and_true]
  have h : ∀ x y : Str, (x == y) = decide (x = y) := fun x y => by
    by_cases e : x = y
    · rw [e, decide_eq_true rfl, beq_self_eq_true]
    · rw [decide_eq_false e, beq_eq_false_iff_ne.mpr e]
  rw [h, h]
end DS

set_option Elab.async false
set_option linter.all false
set_option maxRecDepth 100000
set_option maxHeartbeats 2000000
/-! SH: shares in twelfths; amounts by names. -/
namespace DS
open PySem PySem.Spec PyProof.Rows L2
abbrev Am := List (Str × Int)
/-- so many twelfths -/
def tw (a : Int) : Rat := mkRat a 12
theorem bd_mk {k : Nat} {n : Int} {p : Nat} (hp : 0 < p) (hn : n.natAbs < 2 ^ k) (hq : p < 2 ^ k) : Bd k (mkRat n p) := by
  have h0 : p ≠ 0 := by omega
  refine ⟨?_, ?_⟩
  · rw [Rat.num_mkRat, if_neg h0]
    refine Nat.lt_of_le_of_lt ?_ hn
    rw [Int.natAbs_ediv_of_dvd (Int.ofNat_dvd_left.mpr (Nat.gcd_dvd_right _ _))]
    exact Nat.div_le_self _ _
  · rw [Rat.den_mkRat, if_neg h0]
    exact Nat.lt_of_le_of_lt (Nat.div_le_self _ _) hq
theorem bd_tw {k : Nat} {a : Int} (h : a.natAbs < 2 ^ (k + 4)) : Bd (k + 4) (tw a) := bd_mk (by decide) h (Nat.lt_of_lt_of_le (by decide : 12 < 2 ^ 4) (Nat.pow_le_pow_right (by decide) (by omega)))
theorem tw_eq (a : Int) : tw a = (a : Rat) / 12 := by
  unfold tw
  rw [Rat.mkRat_eq_div]
  rfl
theorem tw_add (a b : Int) : tw a + tw b = tw (a + b) := by
  rw [tw_eq, tw_eq, tw_eq, Rat.intCast_add]
  grind
theorem tw_lt {a b : Int} : tw a < tw b ↔ a < b := by
  rw [tw_eq, tw_eq]
  have h : (a : Rat) / 12 < (b : Rat) / 12 ↔ (a : Rat) < (b : Rat) := by
    constructor <;> intro h <;> grind
  rw [h, Rat.intCast_lt_intCast]
theorem tw_zero : tw 0 = 0 := by decide +kernel
theorem tw_num_pos (a : Int) : decide (0 < (tw a).num) = decide (0 < a) := by
  have h : 0 < (tw a).num ↔ 0 < a := by
    have e : (0 < (tw a).num) ↔ 0 < tw a := by
      rw [Rat.lt_iff]
      show _ ↔ (0 : Int) * _ < (tw a).num * 1
      rw [Int.zero_mul, Int.mul_one]
    rw [e, ← tw_zero, tw_lt]
  rw [Bool.eq_iff_iff, decide_eq_true_iff, decide_eq_true_iff, h]
/-- the test of a part, by whole numbers -/
theorem tw_below {t n a d : Int} (hd : 0 < d) : decide (mkRat ((tw t).num * n) (((tw t).den : Int) * d).toNat < tw a) = decide (t * n < a * d) := by
  have e : mkRat ((tw t).num * n) (((tw t).den : Int) * d).toNat = tw t * ((n : Rat) / (d : Rat)) := by
    have h1 : ((tw t).den : Int) * d = (((tw t).den * d.toNat : Nat) : Int) := by
      rw [Int.natCast_mul, Int.toNat_of_nonneg (by omega)]
    rw [h1, Int.toNat_natCast]
    have h2 : (n : Rat) / (d : Rat) = mkRat n d.toNat := by
      rw [Rat.mkRat_eq_div]
      congr 1
      conv => lhs; rw [← Int.toNat_of_nonneg (show 0 ≤ d by omega)]
      exact Rat.intCast_natCast _
    rw [h2]
    conv => rhs; lhs; rw [← Rat.mkRat_self (tw t)]
    rw [Rat.mkRat_mul_mkRat]
  rw [e, Bool.eq_iff_iff, decide_eq_true_iff, decide_eq_true_iff, tw_eq, tw_eq, ← Rat.intCast_lt_intCast, Rat.intCast_mul, Rat.intCast_mul]
  have hd' : (0 : Rat) < (d : Rat) := by rw [show (0 : Rat) = ((0 : Int) : Rat) from rfl]; exact Rat.intCast_lt_intCast.mpr hd
  generalize (d : Rat) = D at *
  generalize (n : Rat) = N at *
  generalize (t : Rat) = T at *
  generalize (a : Rat) = A at *
  have h1 : T / 12 * (N / D) = (T * N) / 12 / D := by grind
  rw [h1]
  have h2 : T * N / 12 / D < A / 12 ↔ T * N / 12 < A / 12 * D := Rat.div_lt_iff hd'
  rw [h2]
  constructor <;> intro h <;> grind
def shr (p : Str × Int) : D := .tup [.s p.1, frD (tw p.2)]
abbrev shD (l : Am) : D := .lst (l.map shr)
/-- a dict by names -/
def dk (f : Int → D) (kvs : Am) : List (Key × D) := kvs.map fun p => ((.inr p.1 : Key), f p.2)
theorem nk {p : Str × Int} {r : Am} (nd : ((p :: r).map (·.1)).Nodup) : (∀ q ∈ r, q.1 ≠ p.1) ∧ (r.map (·.1)).Nodup := by
  have nd' := List.nodup_cons.mp nd
  exact ⟨fun q hq e => nd'.1 (List.mem_map.mpr ⟨q, hq, e⟩), nd'.2⟩
/-- an amount added -/
def addN : Am → Str → Int → Am
  | [], w, a => [(w, a)]
  | p :: r, w, a => if p.1 = w then (p.1, p.2 + a) :: r else p :: addN r w a
def cnt : Am → Str → Int
  | [], _ => 0
  | p :: r, w => (if p.1 = w then p.2 else 0) + cnt r w
def tot : Am → Int
  | [] => 0
  | p :: r => p.2 + tot r
def addAll (k : Am) (l : Am) : Am := l.foldl (fun k p => addN k p.1 p.2) k
theorem cnt_none {w : Str} : ∀ {k : Am}, (∀ p ∈ k, p.1 ≠ w) → cnt k w = 0
  | [], _ => rfl
  | p :: r, h => by
    show (if p.1 = w then p.2 else 0) + cnt r w = 0
    rw [if_neg (h p List.mem_cons_self), cnt_none fun q hq => h q (List.mem_cons_of_mem _ hq)]
    rfl
theorem dk_find (f : Int → D) (w : Str) : ∀ {k : Am}, (k.map (·.1)).Nodup → (((dk f k).find? fun kv => decide (kv.1 = (.inr w : Key))).map (·.2)).getD (f 0) = f (cnt k w)
  | [], _ => rfl
  | p :: r, nd => by
    have nd' := List.nodup_cons.mp nd
    show ((((.inr p.1 : Key), f p.2) :: dk f r).find? _ |>.map (·.2)).getD (f 0) = f ((if p.1 = w then p.2 else 0) + cnt r w)
    by_cases h : p.1 = w
    · rw [List.find?_cons_of_pos (by exact decide_eq_true (by rw [h])), if_pos h, cnt_none (fun q hq e => (nk nd).1 q hq (e.trans h.symm)), Int.add_zero]
      rfl
    · rw [List.find?_cons_of_neg (by intro z; exact h (Sum.inr.inj (of_decide_eq_true z))), if_neg h, Int.zero_add]
      exact dk_find f w nd'.2
theorem dk_put (f : Int → D) (w : Str) (a : Int) {k : Am} (nd : (k.map (·.1)).Nodup) : putD (dk f k) (.inr w : Key) (f (cnt k w + a)) = dk f (addN k w a) := by
  unfold putD
  have hany : ∀ k : Am, ((dk f k).any fun kv => decide (kv.1 = (.inr w : Key))) = k.any fun p => decide (p.1 = w) := by
    intro k
    unfold dk
    rw [List.any_map]
    apply List.any_congr rfl
    intro p
    show decide ((.inr p.1 : Key) = .inr w) = decide (p.1 = w)
    rw [Bool.eq_iff_iff, decide_eq_true_iff, decide_eq_true_iff]
    exact ⟨Sum.inr.inj, fun e => by rw [e]⟩
  rw [hany]
  have hno : ∀ {k : Am} (v : D), (∀ p ∈ k, p.1 ≠ w) → (dk f k).map (fun kv => if kv.1 = (.inr w : Key) then (kv.1, v) else kv) = dk f k := by
    intro k v h
    unfold dk
    rw [List.map_map]
    apply List.map_congr_left
    intro p hp
    show (if (.inr p.1 : Key) = .inr w then _ else _) = _
    rw [if_neg fun e => h p hp (Sum.inr.inj e)]
  induction k with
  | nil =>
    show [((.inr w : Key), f (0 + a))] = [((.inr w : Key), f a)]
    rw [Int.zero_add]
  | cons p r ih =>
    have nd' := List.nodup_cons.mp nd
    by_cases h : p.1 = w
    · have hr : ∀ q ∈ r, q.1 ≠ w := fun q hq e => (nk nd).1 q hq (e.trans h.symm)
      rw [if_pos (by rw [List.any_cons, decide_eq_true h]; rfl)]
      show (if (.inr p.1 : Key) = .inr w then ((.inr p.1 : Key), f (((if p.1 = w then p.2 else 0) + cnt r w) + a)) else _) :: (dk f r).map _ = dk f (if p.1 = w then (p.1, p.2 + a) :: r else _)
      rw [if_pos (by rw [h]), if_pos h, if_pos h, cnt_none hr, Int.add_zero, hno _ hr]
      rfl
    · have e1 : cnt (p :: r) w = cnt r w := by
        show (if p.1 = w then p.2 else 0) + cnt r w = _
        rw [if_neg h, Int.zero_add]
      have e2 : addN (p :: r) w a = p :: addN r w a := by
        show (if p.1 = w then _ else _) = _
        rw [if_neg h]
      rw [e1, e2, List.any_cons, decide_eq_false h, Bool.false_or]
      have ih := ih nd'.2
      split at ih
      · rename_i c
        rw [if_pos c]
        show (if (.inr p.1 : Key) = .inr w then _ else ((.inr p.1 : Key), f p.2)) :: (dk f r).map _ = ((.inr p.1 : Key), f p.2) :: dk f (addN r w a)
        rw [if_neg fun e => h (Sum.inr.inj e), ← ih]
      · rename_i c
        rw [if_neg c]
        show ((.inr p.1 : Key), f p.2) :: (dk f r ++ _) = ((.inr p.1 : Key), f p.2) :: dk f (addN r w a)
        rw [← ih]
theorem addN_cnt (w u : Str) (a : Int) : ∀ k : Am, cnt (addN k w a) u = cnt k u + if w = u then a else 0
  | [] => by
    show (if w = u then a else 0) + 0 = 0 + _
    omega
  | p :: r => by
    by_cases h : p.1 = w
    · have e : addN (p :: r) w a = (p.1, p.2 + a) :: r := by
        show (if p.1 = w then _ else _) = _
        rw [if_pos h]
      rw [e]
      show (if p.1 = u then p.2 + a else 0) + cnt r u = ((if p.1 = u then p.2 else 0) + cnt r u) + _
      rw [h]
      split <;> omega
    · have e : addN (p :: r) w a = p :: addN r w a := by
        show (if p.1 = w then _ else _) = _
        rw [if_neg h]
      rw [e]
      show (if p.1 = u then p.2 else 0) + cnt (addN r w a) u = ((if p.1 = u then p.2 else 0) + cnt r u) + _
      rw [addN_cnt w u a r]
      omega
theorem addN_tot (w : Str) (a : Int) : ∀ k : Am, tot (addN k w a) = tot k + a
  | [] => by
    show a + 0 = 0 + a
    omega
  | p :: r => by
    by_cases h : p.1 = w
    · have e : addN (p :: r) w a = (p.1, p.2 + a) :: r := by
        show (if p.1 = w then _ else _) = _
        rw [if_pos h]
      rw [e]
      show (p.2 + a) + tot r = (p.2 + tot r) + a
      omega
    · have e : addN (p :: r) w a = p :: addN r w a := by
        show (if p.1 = w then _ else _) = _
        rw [if_neg h]
      rw [e]
      show p.2 + tot (addN r w a) = (p.2 + tot r) + a
      rw [addN_tot w a r]
      omega
theorem addN_keys (w u : Str) (a : Int) : ∀ k : Am, u ∈ (addN k w a).map (·.1) ↔ u = w ∨ u ∈ k.map (·.1)
  | [] => by
    show u ∈ [w] ↔ _
    simp
  | p :: r => by
    by_cases h : p.1 = w
    · have e : addN (p :: r) w a = (p.1, p.2 + a) :: r := by
        show (if p.1 = w then _ else _) = _
        rw [if_pos h]
      rw [e, ← h]
      simp
    · have e : addN (p :: r) w a = p :: addN r w a := by
        show (if p.1 = w then _ else _) = _
        rw [if_neg h]
      rw [e, List.map_cons, List.map_cons, List.mem_cons, List.mem_cons, addN_keys w u a r]
      constructor
      · rintro (h | h | h)
        · exact .inr (.inl h)
        · exact .inl h
        · exact .inr (.inr h)
      · rintro (h | h | h)
        · exact .inr (.inl h)
        · exact .inl h
        · exact .inr (.inr h)
theorem addN_nodup (w : Str) (a : Int) : ∀ {k : Am}, (k.map (·.1)).Nodup → ((addN k w a).map (·.1)).Nodup
  | [], _ => by
    show [w].Nodup
    exact List.nodup_cons.mpr ⟨(fun z => nomatch z), List.nodup_nil⟩
  | p :: r, nd => by
    have nd' := List.nodup_cons.mp nd
    by_cases h : p.1 = w
    · have e : addN (p :: r) w a = (p.1, p.2 + a) :: r := by
        show (if p.1 = w then _ else _) = _
        rw [if_pos h]
      rw [e]
      exact nd
    · have e : addN (p :: r) w a = p :: addN r w a := by
        show (if p.1 = w then _ else _) = _
        rw [if_neg h]
      rw [e, List.map_cons]
      refine List.nodup_cons.mpr ⟨fun z => ?_, addN_nodup w a nd'.2⟩
      rcases (addN_keys w p.1 a r).mp z with z | z
      · exact h z
      · exact nd'.1 z
theorem addN_len (w : Str) (a : Int) : ∀ k : Am, (addN k w a).length ≤ k.length + 1
  | [] => Nat.le_refl _
  | p :: r => by
    by_cases h : p.1 = w
    · have e : addN (p :: r) w a = (p.1, p.2 + a) :: r := by
        show (if p.1 = w then _ else _) = _
        rw [if_pos h]
      rw [e, List.length_cons, List.length_cons]
      omega
    · have e : addN (p :: r) w a = p :: addN r w a := by
        show (if p.1 = w then _ else _) = _
        rw [if_neg h]
      rw [e, List.length_cons, List.length_cons]
      have := addN_len w a r
      omega
/-- what is known of amounts that were put together -/
structure Col (k l : Am) (c : Am) : Prop where
  cnt : ∀ u, cnt c u = cnt k u + cnt l u
  tot : tot c = tot k + tot l
  nd : (c.map (·.1)).Nodup
  keys : ∀ u, u ∈ c.map (·.1) ↔ u ∈ k.map (·.1) ∨ u ∈ l.map (·.1)
  len : c.length ≤ k.length + l.length
theorem Col.nil {k : Am} (nd : (k.map (·.1)).Nodup) : Col k [] k := ⟨fun u => (Int.add_zero _).symm, (Int.add_zero _).symm, nd, fun u => by simp, Nat.le_refl _⟩
theorem cnt_append (u : Str) : ∀ k l : Am, cnt (k ++ l) u = cnt k u + cnt l u
  | [], l => by
    show cnt l u = 0 + _
    omega
  | p :: r, l => by
    show (if p.1 = u then p.2 else 0) + cnt (r ++ l) u = ((if p.1 = u then p.2 else 0) + cnt r u) + _
    rw [cnt_append u r l]
    omega
theorem tot_append : ∀ k l : Am, tot (k ++ l) = tot k + tot l
  | [], l => by
    show tot l = 0 + _
    omega
  | p :: r, l => by
    show p.2 + tot (r ++ l) = (p.2 + tot r) + _
    rw [tot_append r l]
    omega
theorem Col.snoc {k l c : Am} (h : Col k l c) (p : Str × Int) : Col k (l ++ [p]) (addN c p.1 p.2) := by
  refine ⟨fun u => ?_, ?_, addN_nodup _ _ h.nd, fun u => ?_, ?_⟩
  · rw [addN_cnt, h.cnt, cnt_append]
    show _ = DS.cnt k u + (DS.cnt l u + ((if p.1 = u then p.2 else 0) + 0))
    omega
  · rw [addN_tot, h.tot, tot_append]
    show _ = DS.tot k + (DS.tot l + (p.2 + 0))
    omega
  · rw [addN_keys, h.keys, List.map_append, List.mem_append, List.map_cons, List.map_nil, List.mem_singleton]
    constructor
    · rintro (a | a | a)
      · exact .inr (.inr a)
      · exact .inl a
      · exact .inr (.inl a)
    · rintro (a | a | a)
      · exact .inr (.inl a)
      · exact .inr (.inr a)
      · exact .inl a
  · rw [List.length_append, List.length_singleton]
    have h1 := addN_len p.1 p.2 c
    have h2 := h.len
    omega
theorem cnt_mem : ∀ {c : Am} {p : Str × Int}, (c.map (·.1)).Nodup → p ∈ c → cnt c p.1 = p.2
  | [], p, _, h => nomatch h
  | q :: r, p, nd, h => by
    have nd' := List.nodup_cons.mp nd
    show (if q.1 = p.1 then q.2 else 0) + cnt r p.1 = p.2
    rcases List.mem_cons.mp h with e | e
    · subst e
      rw [if_pos rfl, cnt_none (fun z hz e => (nk nd).1 z hz e), Int.add_zero]
    · rw [if_neg fun z => (nk nd).1 p e z.symm, cnt_mem nd'.2 e, Int.zero_add]
theorem cnt_perm {k l : Am} (h : k.Perm l) (u : Str) : cnt k u = cnt l u := by
  induction h with
  | nil => rfl
  | cons p _ ih =>
    show (if p.1 = u then p.2 else 0) + cnt _ u = (if p.1 = u then p.2 else 0) + cnt _ u
    rw [ih]
  | swap p q r =>
    show (if q.1 = u then q.2 else 0) + ((if p.1 = u then p.2 else 0) + cnt r u) = (if p.1 = u then p.2 else 0) + ((if q.1 = u then q.2 else 0) + cnt r u)
    omega
  | trans _ _ i j => rw [i, j]
theorem tot_perm {k l : Am} (h : k.Perm l) : tot k = tot l := by
  induction h with
  | nil => rfl
  | cons p _ ih =>
    show p.2 + tot _ = p.2 + tot _
    rw [ih]
  | swap p q r =>
    show q.2 + (p.2 + tot r) = p.2 + (q.2 + tot r)
    omega
  | trans _ _ i j => rw [i, j]
abbrev posA (c : Am) : Am := c.filter fun p => decide (0 < p.2)
theorem cnt_pos (u : Str) : ∀ {c : Am}, (∀ p ∈ c, 0 ≤ p.2) → cnt (posA c) u = cnt c u
  | [], _ => rfl
  | p :: r, h => by
    have ih := cnt_pos u (c := r) fun q hq => h q (List.mem_cons_of_mem _ hq)
    have h0 := h p List.mem_cons_self
    show cnt ((p :: r).filter _) u = (if p.1 = u then p.2 else 0) + cnt r u
    rw [List.filter_cons]
    split
    · show (if p.1 = u then p.2 else 0) + cnt (posA r) u = _
      rw [ih]
    · rename_i z
      have z' : ¬ 0 < p.2 := fun y => z (decide_eq_true y)
      have e : p.2 = 0 := by omega
      rw [ih, e]
      split <;> omega
theorem tot_pos : ∀ {c : Am}, (∀ p ∈ c, 0 ≤ p.2) → tot (posA c) = tot c
  | [], _ => rfl
  | p :: r, h => by
    have ih := tot_pos (c := r) fun q hq => h q (List.mem_cons_of_mem _ hq)
    have h0 := h p List.mem_cons_self
    show tot ((p :: r).filter _) = p.2 + tot r
    rw [List.filter_cons]
    split
    · show p.2 + tot (posA r) = _
      rw [ih]
    · rename_i z
      have z' : ¬ 0 < p.2 := fun y => z (decide_eq_true y)
      rw [ih]
      omega
theorem cnt_nonneg {u : Str} : ∀ {c : Am}, (∀ p ∈ c, 0 ≤ p.2) → 0 ≤ cnt c u
  | [], _ => Int.le_refl _
  | p :: r, h => by
    have ih := cnt_nonneg (u := u) (c := r) fun q hq => h q (List.mem_cons_of_mem _ hq)
    have h0 := h p List.mem_cons_self
    show 0 ≤ (if p.1 = u then p.2 else 0) + cnt r u
    split <;> omega
theorem cnt_le_tot {u : Str} : ∀ {c : Am}, (∀ p ∈ c, 0 ≤ p.2) → cnt c u ≤ tot c
  | [], _ => Int.le_refl _
  | p :: r, h => by
    have ih := cnt_le_tot (u := u) (c := r) fun q hq => h q (List.mem_cons_of_mem _ hq)
    have h0 := h p List.mem_cons_self
    show (if p.1 = u then p.2 else 0) + cnt r u ≤ p.2 + tot r
    split <;> omega
theorem tot_nonneg {c : Am} (h : ∀ p ∈ c, 0 ≤ p.2) : 0 ≤ tot c := Int.le_trans (cnt_nonneg (u := "") h) (cnt_le_tot h)
theorem cnt_nokey {u : Str} {c : Am} (h : u ∉ c.map (·.1)) : cnt c u = 0 := cnt_none fun p hp e => h (by rw [← e]; exact List.mem_map.mpr ⟨p, hp, rfl⟩)
/-! ### sorted shares -/
def SOk (l : Am) : Prop := ∀ p ∈ l, PyData.strOk p.1 = true
theorem pl_shr {p : Str × Int} (h : PyData.strOk p.1 = true) : PL 2 (shr p) := pl_tup (all_cons (pl_s h) (all_cons (pl_tup (all_cons pl_i (all_cons pl_i all_nil))) all_nil))
theorem pl_shD {l : Am} (h : SOk l) : PL 3 (shD l) := pl_lst fun d hd => by
  obtain ⟨p, hp, rfl⟩ := List.mem_map.mp hd
  exact pl_shr (h p hp)
theorem sort_shr {l : Am} (h : SOk l) : SortOk (l.map shr) := by
  refine ⟨fun d hd => ?_, fun d hd d' hd' => ?_, .inl fun d hd => ?_⟩
  · obtain ⟨p, hp, rfl⟩ := List.mem_map.mp hd
    exact ⟨(pl_shr (h p hp)).1, Nat.le_trans (pl_shr (h p hp)).2 (by decide)⟩
  · obtain ⟨e, he, rfl⟩ := List.mem_map.mp hd
    obtain ⟨p, hp, rfl⟩ := List.mem_map.mp he
    obtain ⟨e, he, rfl⟩ := List.mem_map.mp hd'
    obtain ⟨q, hq, rfl⟩ := List.mem_map.mp he
    rfl
  · obtain ⟨e, he, rfl⟩ := List.mem_map.mp hd
    obtain ⟨p, hp, rfl⟩ := List.mem_map.mp he
    exact ⟨.str p.1, [.tuple [.int _, .int _]], rfl⟩
theorem sorted_shr (l : Am) : ∃ l' : Am, (l.map shr).mergeSort leD = l'.map shr ∧ l'.Perm l := by
  refine ⟨l.mergeSort fun p q => leD (shr p) (shr q), ?_, List.mergeSort_perm _ _⟩
  rw [List.map_mergeSort]
  intro a _ b _
  rfl
def twD (a : Int) : D := frD (tw a)
theorem twD_zero : D.tup [.i 0, .i 1] = twD 0 := by
  unfold twD frD
  rw [tw_zero]
  rfl
theorem items_dk (c : Am) : itemsD (dk twD c) = c.map shr := by
  unfold itemsD dk
  rw [List.map_map]
  rfl
def NN (l : Am) : Prop := ∀ p ∈ l, 0 ≤ p.2
/-- shares of two rows put together, sorted -/
def JT (l1 l2 l' : Am) : Prop := ∃ c, Col [] (l1 ++ l2) c ∧ l'.Perm (posA c)
theorem col_nn {k l c : Am} (h : Col k l c) (hk : NN k) (hl : NN l) : NN c := fun p hp => by
  rw [← cnt_mem h.nd hp, h.cnt]
  exact Int.add_nonneg (cnt_nonneg hk) (cnt_nonneg hl)
theorem nn_append {k l : Am} (hk : NN k) (hl : NN l) : NN (k ++ l) := fun p hp => (List.mem_append.mp hp).elim (hk p) (hl p)
theorem sok_append {k l : Am} (hk : SOk k) (hl : SOk l) : SOk (k ++ l) := fun p hp => (List.mem_append.mp hp).elim (hk p) (hl p)
theorem col_sok {k l c : Am} (h : Col k l c) (hk : SOk k) (hl : SOk l) : SOk c := fun p hp => by
  rcases (h.keys p.1).mp (List.mem_map.mpr ⟨p, hp, rfl⟩) with z | z
  · obtain ⟨q, hq, e⟩ := List.mem_map.mp z
    rw [← e]
    exact hk q hq
  · obtain ⟨q, hq, e⟩ := List.mem_map.mp z
    rw [← e]
    exact hl q hq
structure Jn (l1 l2 l' : Am) : Prop where
  sok : SOk l'
  pos : ∀ p ∈ l', 0 < p.2
  cnt : ∀ u, cnt l' u = cnt l1 u + cnt l2 u
  tot : tot l' = tot l1 + tot l2
  nd : (l'.map (·.1)).Nodup
  len : l'.length ≤ l1.length + l2.length
theorem JT.jn {l1 l2 l' : Am} (h : JT l1 l2 l') (s1 : SOk l1) (s2 : SOk l2) (n1 : NN l1) (n2 : NN l2) : Jn l1 l2 l' := by
  obtain ⟨c, hc, hp⟩ := h
  have sc := col_sok hc (fun p hp => nomatch hp) (sok_append s1 s2)
  have nc := col_nn hc (fun p hp => nomatch hp) (nn_append n1 n2)
  have hm : ∀ p ∈ l', p ∈ c ∧ 0 < p.2 := fun p hq => by
    obtain ⟨a, b⟩ := List.mem_filter.mp (hp.mem_iff.mp hq)
    exact ⟨a, of_decide_eq_true b⟩
  refine ⟨fun p hq => sc p (hm p hq).1, fun p hq => (hm p hq).2, fun u => ?_, ?_, ?_, ?_⟩
  · rw [cnt_perm hp, cnt_pos u nc, hc.cnt, cnt_append]
    show 0 + _ = _
    omega
  · rw [tot_perm hp, tot_pos nc, hc.tot, tot_append]
    show 0 + _ = _
    omega
  · exact (hp.map (·.1)).nodup_iff.mpr (hc.nd.sublist (List.filter_sublist.map _))
  · rw [hp.length_eq]
    have h1 := hc.len
    have h2 : (posA c).length ≤ c.length := List.length_filter_le _ _
    rw [List.length_append, List.length_nil] at h1
    omega
theorem tot_le_append {k l : Am} (h : NN l) : tot k ≤ tot (k ++ l) := by
  rw [tot_append]
  have := tot_nonneg h
  omega
theorem bd_cnt {a : Int} (h0 : 0 ≤ a) (h : a < 2 ^ 100) : Bd 4000 (tw a) := bd_tw (k := 3996) (by
  have e : a.natAbs < 2 ^ 100 := by omega
  exact Nat.lt_of_lt_of_le e (Nat.pow_le_pow_right (by decide) (by decide)))
theorem mem_le_tot {p : Str × Int} : ∀ {l : Am}, NN l → p ∈ l → p.2 ≤ tot l
  | [], _, h => nomatch h
  | q :: r, n, h => by
    have n' : NN r := fun z hz => n z (List.mem_cons_of_mem _ hz)
    have h0 := n q List.mem_cons_self
    have h1 := tot_nonneg n'
    show p.2 ≤ q.2 + tot r
    rcases List.mem_cons.mp h with e | e
    · subst e
      omega
    · have := mem_le_tot n' e
      omega
theorem subM_new {M : Mem} {p : Addr} {c : Cell} (h : M p = none) : SubM M (updM M p c) := fun b c' hb => by
  rw [updM_ne]
  · exact hb
  · rintro rfl
    rw [h] at hb
    cases hb
theorem updM_rmM {M : Mem} {a : Addr} {c : Cell} : updM (rmM M a) a c = updM M a c := by
  funext b
  unfold updM rmM
  split <;> rfl
/-- the parts allowed: (ware, other, (number, parts)) -/
abbrev Bn := List (Str × Str × Int × Int)
def bnD (t : Str × Str × Int × Int) : D := .tup [.s t.1, .s t.2.1, .tup [.i t.2.2.1, .i t.2.2.2]]
def partOf (b : Bn) (w o : Str) : Int × Int := ((b.find? fun t => decide (t.1 = w) && decide (t.2.1 = o)).map fun t => t.2.2).getD (0, 1)
def BOk (b : Bn) : Prop := ∀ t ∈ b, PyData.strOk t.1 = true ∧ PyData.strOk t.2.1 = true ∧ 0 ≤ t.2.2.1 ∧ t.2.2.1 ≤ t.2.2.2 ∧ 0 < t.2.2.2 ∧ t.2.2.2 ≤ 1000
theorem partOf_ok {b : Bn} {w o : Str} (h : BOk b) : 0 ≤ (partOf b w o).1 ∧ (partOf b w o).1 ≤ (partOf b w o).2 ∧ 0 < (partOf b w o).2 ∧ (partOf b w o).2 ≤ 1000 := by
  unfold partOf
  cases e : b.find? fun t => decide (t.1 = w) && decide (t.2.1 = o) with
  | none => exact ⟨by decide, by decide, by decide, by decide⟩
  | some t => exact (h t (List.mem_of_find?_eq_some e)).2.2
theorem pl_bn {t : Str × Str × Int × Int} (h1 : PyData.strOk t.1 = true) (h2 : PyData.strOk t.2.1 = true) : PL 2 (bnD t) := pl_tup (all_cons (pl_s h1) (all_cons (pl_s h2) (all_cons (pl_tup (all_cons pl_i (all_cons pl_i all_nil))) all_nil)))
theorem dstr (a b : Str) : decide (V.str a = V.str b) = decide (a = b) := by
  rw [Bool.eq_iff_iff, decide_eq_true_iff, decide_eq_true_iff]
  exact ⟨fun e => V.str.inj e, fun e => by rw [e]⟩
theorem dint (a b : Int) : decide (V.int a = V.int b) = decide (a = b) := by
  rw [Bool.eq_iff_iff, decide_eq_true_iff, decide_eq_true_iff]
  exact ⟨fun e => V.int.inj e, fun e => by rw [e]⟩
/-- no ware of the row has more than its part -/
def fits (ware : Str) (b : Bn) (l : Am) : Bool := l.all fun p => decide (p.1 = ware) || !decide (tot l * (partOf b ware p.1).1 < p.2 * (partOf b ware p.1).2)
end DS

set_option Elab.async false
set_option linter.all false
set_option maxRecDepth 100000
set_option maxHeartbeats 2000000
/-! DSK: rules with the fragment given apart (printed by mkk.py). -/
namespace DS
open PySem PySem.Spec PyProof.Rows L2
section
variable {X : Cx}
theorem e_callK {K : PySem.W.Frag} (hK : X.K = K) {k : Nat} {x : Str} {ps : List Str} {dvs : List V} {dsp : DSp} {e : Expr} {es : List Expr} {t : TA} {d : DTA} {p pos : Pos} (G : Fn X.prog X.w K X.mg X.base CX0 k x ps dvs dsp) (hr : Room k X.A) (hg : Gl X x) (ha : AA X (e :: es) t d) (hdb : (x == ("__debug__" : Str)) = false := by decide) (he : starEach (e :: es) X.env = (false, eval e X.env) :: starEach es X.env := by rfl) (hpl : (backTo pos (starEach es X.env)).any (·.1) = false := by rfl) : EE X (.Call (.Name x p) (e :: es) [] pos) (tCall (upSp K dsp) dvs E0 t) (dCall dsp dvs X0 d) := by
  subst hK
  exact e_call (G := G) (hr := hr) (hg := hg) (ha := ha) (hdb := hdb) (he := he) (hpl := hpl)
theorem e_call0K {K : PySem.W.Frag} (hK : X.K = K) {k : Nat} {x : Str} {ps : List Str} {dvs : List V} {dsp : DSp} {p pos : Pos} (G : Fn X.prog X.w K X.mg X.base CX0 k x ps dvs dsp) (hr : Room k X.A) (hg : Gl X x) (hdb : (x == ("__debug__" : Str)) = false := by decide) : EE X (.Call (.Name x p) [] [] pos) (tCall (upSp K dsp) dvs E0 tNil) (dCall dsp dvs X0 dANil) := by
  subst hK
  exact e_call0 (G := G) (hr := hr) (hg := hg) (hdb := hdb)
theorem e_ixK {K : PySem.W.Frag} (hK : X.K = K) {a b : Expr} {ta tb : TE} {da db : DTE} {pos : Pos} (hu : X.A.units + 1 < cLine) (ha : EE X a ta da) (hb : EE X b tb db) (hs : PlainIx b := by exact fun _ _ => rfl) : EE X (.Subscript a b pos) (tOp (rIxD K) ta tb) (dOp dIx da db) := by
  subst hK
  exact e_ix (hu := hu) (ha := ha) (hb := hb) (hs := hs)
theorem c_lenK {K : PySem.W.Frag} (hK : X.K = K)  : CB X (.builtin "len") (rLen2 K) dLen := by
  subst hK
  exact c_len 
theorem g_tupK {K : PySem.W.Frag} (hK : X.K = K) {es : List Expr} {k : Nat} {t : TGs} {dt : DTGs} {sl : List Nat} {n : Nat} {pos : Pos} (hc : X.calm = true) (h : GGs X es t dt sl) (hn' : NGs dt n) (hn : (assignEach es X.env).length = n := by rfl) (hst : (assignEach es X.env).findIdx? (·.1) = none := by rfl) : GG X (.Tuple es k pos) (gTup K n t) (dgTup dt) sl := by
  subst hK
  exact g_tup (hc := hc) (h := h) (hn' := hn') (hn := hn) (hst := hst)
theorem i_listK {K : PySem.W.Frag} (hK : X.K = K) {tg e : Expr} {t : TE} {d : DTE} (h : EE X e t d) : II X tg e (iList K t) (diL d) := by
  subst hK
  exact i_list (h := h)
theorem i_tupK {K : PySem.W.Frag} (hK : X.K = K) {tg e : Expr} {t : TE} {d : DTE} (h : EE X e t d) : II X tg e (iTup K t) (diT d) := by
  subst hK
  exact i_tup (h := h)
theorem i_enumK {K : PySem.W.Frag} (hK : X.K = K) {e : Expr} {t : TA} {d : DTA} {p pos tpos : Pos} {elts : List Expr} {kk : Nat} (hm : X.mg "enumerate" = none) (ha : AA X [e] t d) (hg : Gl X "enumerate" := by rfl) (hs : starEach [e] X.env = [(false, eval e X.env)] := by rfl) :
    II X (.Tuple elts kk tpos) (.Call (.Name "enumerate" p) [e] [] pos) (iEnum K t) (diEnum d) := by
  subst hK
  exact i_enum (hm := hm) (ha := ha) (hg := hg) (hs := hs)
theorem i_zipK {K : PySem.W.Frag} (hK : X.K = K) {e e2 : Expr} {t : TA} {d : DTA} {p pos tpos : Pos} {elts : List Expr} {kk : Nat} (hm : X.mg "zip" = none) (ha : AA X [e, e2] t d) (hg : Gl X "zip" := by rfl) (hs : starEach [e, e2] X.env = (false, eval e X.env) :: starEach [e2] X.env := by rfl) (hpl : (backTo pos (starEach [e2] X.env)).any (·.1) = false := by rfl) :
    II X (.Tuple elts kk tpos) (.Call (.Name "zip" p) [e, e2] [] pos) (iZip K t) (diZip d) := by
  subst hK
  exact i_zip (hm := hm) (ha := ha) (hg := hg) (hs := hs) (hpl := hpl)
theorem i_revK {K : PySem.W.Frag} (hK : X.K = K) {tg e : Expr} {t : TA} {d : DTA} {p pos : Pos} (hm : X.mg "reversed" = none) (ha : AA X [e] t d) (hg : Gl X "reversed" := by rfl) (hs : starEach [e] X.env = [(false, eval e X.env)] := by rfl) :
    II X tg (.Call (.Name "reversed" p) [e] [] pos) (iRev K t) (diRev d) := by
  subst hK
  exact i_rev (hm := hm) (ha := ha) (hg := hg) (hs := hs)
theorem o_eqK {K : PySem.W.Frag} (hK : X.K = K) (hu : X.A.units + 64 < cLine) : OO X (compareOp .Eq) (rEqU K) (dEq false) := by
  subst hK
  exact o_eq (hu := hu)
theorem o_neK {K : PySem.W.Frag} (hK : X.K = K) (hu : X.A.units + 64 < cLine) : OO X (compareOp .NotEq) (rNeU K) (dEq true) := by
  subst hK
  exact o_ne (hu := hu)
theorem o_inK {K : PySem.W.Frag} (hK : X.K = K) (hu : X.A.units + 65 < cLine) : OO X (compareOp .In) (rInU K) (dIn false) := by
  subst hK
  exact o_in (hu := hu)
theorem o_notInK {K : PySem.W.Frag} (hK : X.K = K) (hu : X.A.units + 65 < cLine) : OO X (compareOp .NotIn) (rNotInU K) (dIn true) := by
  subst hK
  exact o_notIn (hu := hu)
theorem o_addK {K : PySem.W.Frag} (hK : X.K = K)  : OO X (binaryOp .Add) (rAddU K) dAdd := by
  subst hK
  exact o_add 
theorem e_sliceK {K : PySem.W.Frag} (hK : X.K = K) {e : Expr} {te : TE} {de : DTE} {lo hi : Option Expr} {tl th : TO} {dl dh : DTO} {pos p2 : Pos} (he : EE X e te de) (hl : PP X lo tl dl) (hh : PP X hi th dh) : EE X (.Subscript e (.Slice lo hi none p2) pos) (tSl (rSlU K) te tl th) (dSlice dSl de dl dh) := by
  subst hK
  exact e_slice (he := he) (hl := hl) (hh := hh)
theorem c_listK {K : PySem.W.Frag} (hK : X.K = K)  : CB X (.type "list") (rListOf K) dListOf := by
  subst hK
  exact c_list 
theorem c_sumK {K : PySem.W.Frag} (hK : X.K = K) (hc : X.calm = true) : CB X (.builtin "sum") (rSum K) dSum := by
  subst hK
  exact c_sum (hc := hc)
theorem c_anyK {K : PySem.W.Frag} (hK : X.K = K) (hc : X.calm = true) : CB X (.builtin "any") (rAny K) dAny := by
  subst hK
  exact c_any (hc := hc)
theorem c_allK {K : PySem.W.Frag} (hK : X.K = K) (hc : X.calm = true) : CB X (.builtin "all") (rAll K) dAll := by
  subst hK
  exact c_all (hc := hc)
theorem c_sortedK {K : PySem.W.Frag} (hK : X.K = K) (hu : X.A.units + 64 < cLine) : CB X (.builtin "sorted") (rSortD K) dSorted := by
  subst hK
  exact c_sorted (hu := hu)
theorem e_fldK {K : PySem.W.Frag} (hK : X.K = K) {o : Expr} {f : Str} {to : TE} {do_ : DTE} {pos : Pos} (ho : EE X o to do_) (hb : attributeBase o f X.env (eval o X.env) = eval o X.env := by rfl) : EE X (.Attribute o f pos) (tFld K to f) (dFld K f do_) := by
  subst hK
  exact e_fld (ho := ho) (hb := hb)
theorem e_makeK {K : PySem.W.Frag} (hK : X.K = K) {k : Nat} {x : Str} {C : Addr} {ps : List Str} {dvs : List V} {dsp : DSp} {e : Expr} {es : List Expr} {t : TA} {d : DTA} {p pos : Pos} (G : Cl X.prog X.w K X.mg X.base CX0 k x C ps dvs dsp) (hr : Room (k + 1) X.A) (hg : Gl X x) (ha : AA X (e :: es) t d) (hdb : (x == ("__debug__" : Str)) = false := by decide) (he : starEach (e :: es) X.env = (false, eval e X.env) :: starEach es X.env := by rfl) (hpl : (backTo pos (starEach es X.env)).any (·.1) = false := by rfl) : EE X (.Call (.Name x p) (e :: es) [] pos) (tMake C (upSp K dsp) dvs E0 t) (dMake C dsp dvs d) := by
  subst hK
  exact e_make (G := G) (hr := hr) (hg := hg) (ha := ha) (hdb := hdb) (he := he) (hpl := hpl)
theorem e_methK {K : PySem.W.Frag} (hK : X.K = K) {o e : Expr} {es : List Expr} {to : TE} {do_ : DTE} {t : TA} {d : DTA} {name : Str} {apos cpos : Pos} {id : String} {r : V → List V → Hp → VK → Prop} {dr : DM} (slot : Slot "list" name id) (hty : typeOf (.builtin id) = pure (.type "method_descriptor")) (hm : MM X id r dr) (ho : EE X o to do_) (ha : AA X (e :: es) t d) (hbase : attributeBase o name X.env (eval o X.env) = eval o X.env := by rfl) (hfew : ((backTo cpos (starEach (e :: es) X.env)).all (fun x => !x.1) && (backToKw cpos (keywordEach [] X.env)).all (fun x => x.1.isSome)
      && decide ((e :: es).length + ([] : List Keyword).length + (if ([] : List Keyword).isEmpty then 0 else 1) < 30)) = true := by rfl) (hline : (apos.endLine == cpos.line) = true := by rfl) (hs : starEach (e :: es) X.env = (false, eval e X.env) :: starEach es X.env := by rfl) (hplain : (backTo cpos (starEach es X.env)).any (·.1) = false := by rfl) :
    EE X (.Call (.Attribute o name apos) (e :: es) [] cpos) (tBM K "list" r to t) (dMeth dr do_ d) := by
  subst hK
  exact e_meth (slot := slot) (hty := hty) (hm := hm) (ho := ho) (ha := ha) (hbase := hbase) (hfew := hfew) (hline := hline) (hs := hs) (hplain := hplain)
theorem e_meth0K {K : PySem.W.Frag} (hK : X.K = K) {o : Expr} {to : TE} {do_ : DTE} {name : Str} {apos cpos : Pos} {id : String} {r : V → List V → Hp → VK → Prop} {dr : DM} (slot : Slot "list" name id) (hty : typeOf (.builtin id) = pure (.type "method_descriptor")) (hm : MM X id r dr) (ho : EE X o to do_) (hbase : attributeBase o name X.env (eval o X.env) = eval o X.env := by rfl) (hline : (apos.endLine == cpos.line) = true := by rfl) :
    EE X (.Call (.Attribute o name apos) [] [] cpos) (tBM0 K "list" r to) (dMeth dr do_ dANil) := by
  subst hK
  exact e_meth0 (slot := slot) (hty := hty) (hm := hm) (ho := ho) (hbase := hbase) (hline := hline)
theorem e_ownK {K : PySem.W.Frag} (hK : X.K = K) {pl : Sem Bool} {k : Nat} {C : Addr} {m : Str} {ps : List Str} {dvs : List V} {dsp : DSp} {o e : Expr} {es : List Expr} {te : TE} {de : DTE} {t : TA} {d : DTA} {apos pos : Pos} (G : Me X.prog X.w K X.mg X.base CX0 k C m ps dvs dsp) (hr : Room k X.A) (ho : EE X o te de) (ha : AA X (e :: es) t d) (hst : starEach (e :: es) X.env = (false, eval e X.env) :: starEach es X.env := by rfl) (hpl : (backTo pos (starEach es X.env)).any (·.1) = false := by rfl) (ht : eval (.Call (.Attribute o m apos) (e :: es) [] pos) X.env = (do
      let ov ← eval o X.env
      standAt apos.atName
      let (f, first) ← holding [ov] (getMethod ov m pl)
      callWith pos f first (backTo pos (starEach (e :: es) X.env)) (backToKw pos (keywordEach [] X.env))) := by rfl) :
    EE X (.Call (.Attribute o m apos) (e :: es) [] pos) (tMeth C m (upSp K dsp) dvs E0 te t) (dOwn C m dsp dvs X0 de d) := by
  subst hK
  exact e_own (G := G) (hr := hr) (ho := ho) (ha := ha) (hst := hst) (hpl := hpl) (ht := ht)
theorem e_own0K {K : PySem.W.Frag} (hK : X.K = K) {pl : Sem Bool} {k : Nat} {C : Addr} {m : Str} {ps : List Str} {dvs : List V} {dsp : DSp} {o : Expr} {te : TE} {de : DTE} {apos pos : Pos} (G : Me X.prog X.w K X.mg X.base CX0 k C m ps dvs dsp) (hr : Room k X.A) (ho : EE X o te de) (ht : eval (.Call (.Attribute o m apos) [] [] pos) X.env = (do
      let ov ← eval o X.env
      standAt apos.atName
      let (f, first) ← holding [ov] (getMethod ov m pl)
      callWith pos f first (backTo pos (starEach [] X.env)) (backToKw pos (keywordEach [] X.env))) := by rfl) :
    EE X (.Call (.Attribute o m apos) [] [] pos) (tMeth C m (upSp K dsp) dvs E0 te tNil) (dOwn C m dsp dvs X0 de dANil) := by
  subst hK
  exact e_own0 (G := G) (hr := hr) (ho := ho) (ht := ht)
theorem e_isiT1K {K : PySem.W.Frag} (hK : X.K = K) (T : Ty) {x : Str} {p p1 pos : Pos} {e : Expr} {te : TE} {de : DTE} (hm : X.mg "isinstance" = none) (hT : X.mg x = none) (he : EE X e te de) (hg : Gl X "isinstance" := by rfl) (hgT : Gl X x := by rfl) (hv : bootBuiltins x = some (.type T.name) := by decide +kernel) (hn : x ≠ "__name__" := by decide) (hdb : (x == ("__debug__" : Str)) = false := by decide) (h1 : starEach [e, .Name x p1] X.env = (false, eval e X.env) :: starEach [.Name x p1] X.env := by rfl) (h2 : starEach [.Name x p1] X.env = (false, eval (.Name x p1) X.env) :: starEach [] X.env := by rfl) (hpl : (backTo pos (starEach [.Name x p1] X.env)).any (·.1) = false := by rfl) :
    EE X (.Call (.Name "isinstance" p) [e, .Name x p1] [] pos) (tCB (rIsi K) (tCons te (tCons (tC (.ty T.name)) tNil))) (dIsi T de) := by
  subst hK
  exact e_isiT1 (T := T) (hm := hm) (hT := hT) (he := he) (hg := hg) (hgT := hgT) (hv := hv) (hn := hn) (hdb := hdb) (h1 := h1) (h2 := h2) (hpl := hpl)
theorem e_isiT2K {K : PySem.W.Frag} (hK : X.K = K) (T U : Ty) {x y : Str} {p p1 p2 tp pos : Pos} {kk} {e : Expr} {te : TE} {de : DTE} (hm : X.mg "isinstance" = none) (hT : X.mg x = none) (hU : X.mg y = none) (he : EE X e te de) (hg : Gl X "isinstance" := by rfl) (hgT : Gl X x := by rfl) (hv : bootBuiltins x = some (.type T.name) := by decide +kernel) (hn : x ≠ "__name__" := by decide) (hdb : (x == ("__debug__" : Str)) = false := by decide) (hgU : Gl X y := by rfl) (hvU : bootBuiltins y = some (.type U.name) := by decide +kernel) (hnU : y ≠ "__name__" := by decide) (hdbU : (y == ("__debug__" : Str)) = false := by decide) (h1 : starEach [e, .Tuple [.Name x p1, .Name y p2] kk tp] X.env = (false, eval e X.env) :: starEach [.Tuple [.Name x p1, .Name y p2] kk tp] X.env := by rfl) (h2 : starEach [.Tuple [.Name x p1, .Name y p2] kk tp] X.env = (false, eval (.Tuple [.Name x p1, .Name y p2] kk tp) X.env) :: starEach [] X.env := by rfl) (h3 : starEach [.Name x p1, .Name y p2] X.env = (false, eval (.Name x p1) X.env) :: starEach [.Name y p2] X.env := by rfl) (h4 : starEach [.Name y p2] X.env = (false, eval (.Name y p2) X.env) :: starEach [] X.env := by rfl) (hpl : (backTo pos (starEach [.Tuple [.Name x p1, .Name y p2] kk tp] X.env)).any (·.1) = false := by rfl) :
    EE X (.Call (.Name "isinstance" p) [e, .Tuple [.Name x p1, .Name y p2] kk tp] [] pos) (tCB (rIsiT K) (tCons te (tCons (tTup (tCons (tC (.ty T.name)) (tCons (tC (.ty U.name)) tNil))) tNil))) (dIsi2 T U de) := by
  subst hK
  exact e_isiT2 (T := T) (U := U) (hm := hm) (hT := hT) (hU := hU) (he := he) (hg := hg) (hgT := hgT) (hv := hv) (hn := hn) (hdb := hdb) (hgU := hgU) (hvU := hvU) (hnU := hnU) (hdbU := hdbU) (h1 := h1) (h2 := h2) (h3 := h3) (h4 := h4) (hpl := hpl)
end
end DS


set_option Elab.async false
set_option linter.all false
set_option maxRecDepth 100000
set_option maxHeartbeats 2000000
/-! MX: the laws' own draws; texts. -/
namespace DS
open PySem PySem.Spec PyProof.Rows L2
def mixO (c k : Int) : Int := (c % 10 ^ 30 + 7919 * k + 11) * (k * k + 48271) % 2147483647
/-- what _law_mix draws -/
def mixI (c k : Int) : Int := mixO c k * mixO c k % 2147483629 / 3
theorem mixI_nonneg (c k : Int) : 0 ≤ mixI c k := by
  unfold mixI
  have h := Int.emod_nonneg (mixO c k * mixO c k) (by decide : (2147483629 : Int) ≠ 0)
  exact Int.ediv_nonneg h (by decide)
theorem mixI_lt (c k : Int) : mixI c k < 1000000000 := by
  unfold mixI
  have h := Int.emod_lt_of_pos (mixO c k * mixO c k) (by decide : (0 : Int) < 2147483629)
  omega
theorem nat_lt_pow {i : Int} {a b : Nat} (h : i.natAbs < 2 ^ a) (hab : a ≤ b) : i.natAbs < 2 ^ b := Nat.lt_of_lt_of_le h (Nat.pow_le_pow_right (by decide) hab)
/-- factors that are small -/
theorem mulS {i j : Int} (hi : i.natAbs < 2 ^ 600) (hj : j.natAbs < 2 ^ 600) : CMulW i j := wide_mul hi hj (by decide) (by decide) (by decide)
theorem smallN {i : Int} (h : -(10 ^ 60) ≤ i ∧ i ≤ 10 ^ 60) : i.natAbs < 2 ^ 600 := by
  have h1 : i.natAbs < 2 ^ 200 := by omega
  exact nat_lt_pow h1 (by decide)
theorem mulT {i j : Int} (hi : -(10 ^ 60) ≤ i ∧ i ≤ 10 ^ 60) (hj : -(10 ^ 60) ≤ j ∧ j ≤ 10 ^ 60) : CMulW i j := mulS (smallN hi) (smallN hj)
theorem divS {i j : Int} (h : 0 < j) (hj : j ≤ 10 ^ 60) : CDivW i j := wide_div (b := 600) h (smallN ⟨by omega, hj⟩) (by decide) (by decide)
/-! ### texts -/
theorem strOk_one {c : Nat} (h : c < 0x110000) : PyData.strOk ⟨#[c]⟩ = true := by
  show (#[c].all fun x => decide (x < 0x110000)) = true
  simp [h]
theorem strOk_mem {x : Str} : PyData.strOk x = true ↔ ∀ c ∈ x.cps.toList, c < 0x110000 := by
  show (x.cps.all fun c => decide (c < 0x110000)) = true ↔ _
  rw [← Array.all_toList, List.all_eq_true]
  constructor
  · exact fun h c hc => of_decide_eq_true (h c hc)
  · exact fun h c hc => decide_eq_true (h c hc)
theorem app_cps (x y : Str) : (x ++ y).cps.toList = x.cps.toList ++ y.cps.toList := by
  show (x.cps ++ y.cps).toList = _
  rw [Array.toList_append]
theorem strOk_app {x y : Str} (h : PyData.strOk x = true) (g : PyData.strOk y = true) : PyData.strOk (x ++ y) = true := by
  rw [strOk_mem] at *
  intro c hc
  rw [app_cps] at hc
  exact (List.mem_append.mp hc).elim (h c) (g c)
theorem len_cps (x : Str) : x.length = x.cps.toList.length := by
  show x.cps.size = _
  rw [Array.length_toList]
theorem len_app (x y : Str) : (x ++ y).length = x.length + y.length := by
  rw [len_cps, app_cps, List.length_append, ← len_cps, ← len_cps]
theorem cut_cps (z : Str) (lo hi : Option Int) : (cutS z lo hi).cps.toList = (z.cps.toList.drop (HT.sIx z.length 0 lo)).take (HT.sIx z.length z.length hi - HT.sIx z.length 0 lo) := rfl
theorem strOk_cut {z : Str} {lo hi : Option Int} (h : PyData.strOk z = true) : PyData.strOk (cutS z lo hi) = true := by
  rw [strOk_mem] at *
  intro c hc
  rw [cut_cps] at hc
  exact h c (List.mem_of_mem_drop (List.mem_of_mem_take hc))
theorem len_cut (z : Str) (lo hi : Option Int) : (cutS z lo hi).length ≤ z.length := by
  rw [len_cps, cut_cps, len_cps]
  exact Nat.le_trans (List.take_sublist _ _).length_le (List.drop_sublist _ _).length_le
theorem seqAt_ok {α : Type} {xs : List α} {i : Int} (h0 : 0 ≤ i) (h : i < xs.length) : ∃ c, seqAt xs i = some c ∧ c ∈ xs := by
  obtain ⟨n, rfl⟩ := Int.eq_ofNat_of_zero_le h0
  have hn : n < xs.length := by omega
  exact ⟨xs[n], List.getElem?_eq_getElem hn, List.getElem_mem hn⟩
theorem emodT (a : Int) {b : Int} (h : 0 < b) : 0 ≤ a % b ∧ a % b < b := ⟨Int.emod_nonneg a (by omega), Int.emod_lt_of_pos a h⟩
theorem ediv0 {a b : Int} (h : 0 ≤ a) (hb : 0 ≤ b) : 0 ≤ a / b := Int.ediv_nonneg h hb
theorem ediv_le {a b : Int} (h : 0 ≤ a) : a / b ≤ a := Int.ediv_le_self b h
/-- texts that may be data -/
def WOk (ws : List Str) : Prop := ∀ w ∈ ws, PyData.strOk w = true
theorem cut_map {α : Type} (f : α → D) (l : List α) (lo hi : Option Int) : ∃ l' : List α, cutD (l.map f) lo hi = l'.map f ∧ (∀ x ∈ l', x ∈ l) ∧ l'.length ≤ l.length := by
  refine ⟨(l.drop (HT.sIx (l.map f).length 0 lo)).take (HT.sIx (l.map f).length (l.map f).length hi - HT.sIx (l.map f).length 0 lo), ?_, ?_, ?_⟩
  · unfold cutD
    rw [List.map_take, List.map_drop]
  · exact fun x h => List.mem_of_mem_drop (List.mem_of_mem_take h)
  · exact Nat.le_trans (List.take_sublist _ _).length_le (List.drop_sublist _ _).length_le
theorem nextD {A : DEnds} {E : DEnv} {M : Mem} (h : A.nx E M) : dNext A E M := h
theorem ret_lc {di : DTI} {g : DTG} {t : DTT} {e : DTE} {vs : List Nat} {A : DEnds} {E : DEnv} {M : Mem} (h : di E M fun ds E1 M1 => dComp g t e vs E1 (fun acc M2 => A.rt (.lst acc) M2) ds [] M1) : dRet (dLc di g t e vs) A E M := h
theorem diS_c {z : Str} {E : DEnv} {M : Mem} {Q : List D → DEnv → Mem → Prop} (h : Q (z.cps.toList.map fun c => D.v (.str ⟨#[c]⟩)) E M) : diS (dC (.str z)) E M Q := h
/-- an amount of a name, as a pair -/
def am (p : Str × Int) : D := .tup [.s p.1, .i p.2]
theorem items_i (c : Am) : itemsD (dk D.i c) = c.map am := by
  unfold itemsD dk
  rw [List.map_map]
  rfl
theorem vals_i (c : Am) : valsD (dk D.i c) = intsD (c.map (·.2)) := by
  unfold valsD dk intsD
  rw [List.map_map, List.map_map]
  rfl
theorem sum_tot : ∀ c : Am, (c.map (·.2)).sum = tot c
  | [] => rfl
  | p :: r => by
    show p.2 + (r.map (·.2)).sum = p.2 + tot r
    rw [sum_tot r]
theorem part_head (b : Bn) (w o : Str) : seqAt (((b.filter fun t => decide (t.1 = w) && decide (t.2.1 = o)).map fun t => D.tup [.i t.2.2.1, .i t.2.2.2]) ++ [D.tup [.i 0, .i 1]]) 0 = some (.tup [.i (partOf b w o).1, .i (partOf b w o).2]) := by
  induction b with
  | nil => rfl
  | cons t r ih =>
    unfold partOf at ih ⊢
    by_cases h : (decide (t.1 = w) && decide (t.2.1 = o)) = true
    · rw [List.filter_cons_of_pos (p := fun t : Str × Str × Int × Int => decide (t.1 = w) && decide (t.2.1 = o)) h, List.find?_cons_of_pos (p := fun t : Str × Str × Int × Int => decide (t.1 = w) && decide (t.2.1 = o)) h]
      rfl
    · rw [List.filter_cons_of_neg (p := fun t : Str × Str × Int × Int => decide (t.1 = w) && decide (t.2.1 = o)) h, List.find?_cons_of_neg (p := fun t : Str × Str × Int × Int => decide (t.1 = w) && decide (t.2.1 = o)) h]
      exact ih
theorem isL_cell {M : Mem} {p : Addr} {zs : List D} (h : M p = some (.lst zs)) : isL M (.r p) := by
  show (lstOf M (.v (.ref p))).isSome = true
  rw [lstOf_cell h]
  rfl
theorem seqW {ws : List Str} {i : Int} (h0 : 0 ≤ i) (h : i < ws.length) : ∃ w, seqAt (ws.map D.s) i = some (.s w) ∧ w ∈ ws := by
  obtain ⟨d, h1, h2⟩ := seqAt_ok (xs := ws.map D.s) h0 (by rw [List.length_map]; exact h)
  obtain ⟨w, hw, rfl⟩ := List.mem_map.mp h2
  exact ⟨w, h1, hw⟩
theorem seq_via {t u : DTS} {A : DEnds} {E : DEnv} {M : Mem} (I : DEnv → Mem → Prop) (h : ∀ N : DEnv → Mem → Prop, (∀ E M, I E M → N E M) → t { A with nx := N } E M) (k : ∀ E M, I E M → u A E M) : dSeq t u A E M := h _ k
theorem enum_s (l : List Str) : enumD (l.map D.s) = (l.mapIdx fun i w => (i, w)).map fun p => D.tup [.i (p.1 : Nat), .s p.2] := by
  unfold enumD
  apply List.ext_getElem?
  intro i
  rw [List.getElem?_mapIdx, List.getElem?_map, List.getElem?_map, List.getElem?_mapIdx]
  cases l[i]? <;> rfl
theorem mem_idx {l : List Str} {p : Nat × Str} (h : p ∈ l.mapIdx fun i w => (i, w)) : p.1 < l.length ∧ p.2 ∈ l := by
  obtain ⟨i, hi, rfl⟩ := List.mem_mapIdx.mp h
  exact ⟨hi, List.getElem_mem hi⟩
theorem tot_le_len {B : Int} (hB : 0 ≤ B) : ∀ {l : Am}, (∀ p ∈ l, p.2 ≤ B) → tot l ≤ B * l.length
  | [], _ => by
    show (0 : Int) ≤ B * 0
    omega
  | p :: r, h => by
    have h1 := h p List.mem_cons_self
    have h2 := tot_le_len hB (l := r) fun q hq => h q (List.mem_cons_of_mem _ hq)
    show p.2 + tot r ≤ B * ((r.length + 1 : Nat) : Int)
    rw [Int.natCast_add, Int.mul_add]
    omega
theorem tw_whole (s : Int) : frD (tw (12 * s)) = .tup [.i s, .i 1] := by
  have e : tw (12 * s) = (s : Rat) := by
    rw [tw_eq, Rat.intCast_mul]
    generalize (s : Rat) = S
    have h : ((12 : Int) : Rat) = 12 := rfl
    rw [h]
    grind
  unfold frD
  rw [e]
  rfl
/-- what stands in a tank at the start -/
def h0A (ware : Str) (start : Int) : Am := if 0 < start then [(ware, 12 * start)] else []
theorem h0_shr (ware : Str) (start : Int) : (if 0 < start then [D.tup [.s ware, .tup [.i start, .i 1]]] else []) = (h0A ware start).map shr := by
  unfold h0A
  split
  · show _ = [D.tup [.s ware, frD (tw (12 * start))]]
    rw [tw_whole]
  · rfl
theorem h0_cnt {ware : Str} {start : Int} (h : 0 ≤ start) (u : Str) : cnt (h0A ware start) u = cnt [(ware, 12 * start)] u := by
  unfold h0A
  split
  · rfl
  · have : start = 0 := by omega
    subst this
    show 0 = (if ware = u then 12 * 0 else 0) + 0
    split <;> rfl
theorem h0_tot {ware : Str} {start : Int} (h : 0 ≤ start) : tot (h0A ware start) = 12 * start := by
  unfold h0A
  split
  · show 12 * start + 0 = _
    omega
  · show 0 = _
    omega
theorem h0_sok {ware : Str} {start : Int} (h : PyData.strOk ware = true) : SOk (h0A ware start) := by
  unfold h0A
  split
  · intro p hp
    cases List.mem_singleton.mp hp
    exact h
  · exact fun p hp => nomatch hp
theorem h0_nn {ware : Str} {start : Int} : NN (h0A ware start) := by
  unfold h0A
  split
  · intro p hp
    cases List.mem_singleton.mp hp
    show 0 ≤ 12 * start
    omega
  · exact fun p hp => nomatch hp
theorem h0_len {ware : Str} {start : Int} : (h0A ware start).length ≤ 1 := by
  unfold h0A
  split
  · exact Nat.le_refl _
  · exact Nat.zero_le _
theorem perm_nn {l l' : Am} (h : l'.Perm (posA l)) : NN l' ∧ ∀ p ∈ l', p ∈ l := by
  refine ⟨fun p hp => ?_, fun p hp => (List.mem_filter.mp (h.mem_iff.mp hp)).1⟩
  exact Int.le_of_lt (of_decide_eq_true (List.mem_filter.mp (h.mem_iff.mp hp)).2)
theorem perm_len {l l' : Am} (h : l'.Perm (posA l)) : l'.length ≤ l.length := by
  rw [h.length_eq]
  exact List.length_filter_le _ _
theorem perm_tot {l l' : Am} (h : l'.Perm (posA l)) (n : NN l) : tot l' = tot l := by rw [tot_perm h, tot_pos n]
theorem perm_cnt {l l' : Am} (h : l'.Perm (posA l)) (n : NN l) (u : Str) : cnt l' u = cnt l u := by rw [cnt_perm h, cnt_pos u n]
theorem cnt_has {u : Str} {c : Am} (h : cnt c u ≠ 0) : ∃ p ∈ c, p.1 = u := by
  refine Classical.byContradiction fun n => h (cnt_none fun p hp e => n ⟨p, hp, e⟩)
/-- THE LAW: the same wares, the same parts -/
theorem fits_eq {ware : Str} {l T : Am} {b : Bn} (hb : BOk b) (ndl : (l.map (·.1)).Nodup) (ndT : (T.map (·.1)).Nodup) (hpos : ∀ p ∈ l, 0 < p.2) (nT : NN T) (hc : ∀ u, cnt l u = cnt T u) (ht : tot l = tot T) :
    fits ware b l = T.all fun p => decide (p.1 = ware) || !decide (tot T * (partOf b ware p.1).1 < p.2 * (partOf b ware p.1).2) := by
  unfold fits
  rw [ht, Bool.eq_iff_iff, List.all_eq_true, List.all_eq_true]
  constructor
  · intro h p hp
    have e := cnt_mem ndT hp
    by_cases z : p.2 = 0
    · have := (partOf_ok (w := ware) (o := p.1) hb).1
      have t0 := tot_nonneg nT
      have m := Int.mul_nonneg t0 this
      rw [z, Int.zero_mul, decide_eq_false (by omega : ¬ tot T * (partOf b ware p.1).1 < 0)]
      exact Bool.or_true _
    · obtain ⟨q, hq, e2⟩ := cnt_has (c := l) (u := p.1) (by rw [hc, e]; exact z)
      have e3 := cnt_mem ndl hq
      rw [e2, hc, e] at e3
      have e4 : q = p := Prod.ext e2 e3.symm
      rw [← e4]
      exact h q hq
  · intro h q hq
    have e := cnt_mem ndl hq
    have z := hpos q hq
    obtain ⟨p, hp, e2⟩ := cnt_has (c := T) (u := q.1) (by rw [← hc, e]; omega)
    have e3 := cnt_mem ndT hp
    rw [e2, ← hc, e] at e3
    have e4 : p = q := Prod.ext e2 e3.symm
    rw [← e4]
    exact h p hp
theorem filter_yes {α : Type} (l : List α) : l.filter (fun _ => true) = l := List.filter_eq_self.mpr fun _ _ => rfl
end DS

set_option maxHeartbeats 0
namespace G
open PySem PySem.Spec PyProof.Rows L2
/-! ### the text by places -/
def top (i : Nat) : Stmt := PySem.Challenge.pw_batchpipe_k41_may_blend.main.body.getD i (.Pass ⟨0, 0, 0, 0⟩)
abbrev s_common_part : Stmt := top 1
abbrev s_made : Stmt := top 2
abbrev s_sum_of : Stmt := top 3
abbrev s_times : Stmt := top 4
abbrev s_below : Stmt := top 5
abbrev s_TankU_initU : Stmt := inClass (top 7) 0
abbrev s_shares_together : Stmt := top 8
abbrev s_volume_in : Stmt := top 9
abbrev s_tank_with : Stmt := top 10
abbrev s_part_allowed : Stmt := top 11
abbrev s_may_blend : Stmt := top 12
abbrev s_put_in : Stmt := top 13
abbrev s_law_mix : Stmt := top 15
abbrev s_law_at : Stmt := top 16
abbrev s_law_wares : Stmt := top 17
abbrev s_law_bounds : Stmt := top 18
abbrev s_law_frac : Stmt := top 19
abbrev s_law_right : Stmt := top 20
abbrev s_law_edge : Stmt := top 21
abbrev s_law_put : Stmt := top 22
abbrev s_law_round : Stmt := top 23
abbrev s_law : Stmt := top 24
/-! ### facts by names -/
def d_common_part : He.DefD := ⟨("common_part", none), "common_part", "common_part", defArgs s_common_part, defBody s_common_part, defScope s_common_part, [], []⟩
def d_made : He.DefD := ⟨("made", none), "made", "made", defArgs s_made, defBody s_made, defScope s_made, [], []⟩
def d_sum_of : He.DefD := ⟨("sum_of", none), "sum_of", "sum_of", defArgs s_sum_of, defBody s_sum_of, defScope s_sum_of, [], []⟩
def d_times : He.DefD := ⟨("times", none), "times", "times", defArgs s_times, defBody s_times, defScope s_times, [], []⟩
def d_below : He.DefD := ⟨("below", none), "below", "below", defArgs s_below, defBody s_below, defScope s_below, [], []⟩
def d_TankU_initU : He.DefD := ⟨("Tank", some "__init__"), "__init__", "Tank.__init__", defArgs s_TankU_initU, defBody s_TankU_initU, defScope s_TankU_initU, [], []⟩
def d_shares_together : He.DefD := ⟨("shares_together", none), "shares_together", "shares_together", defArgs s_shares_together, defBody s_shares_together, defScope s_shares_together, [], []⟩
def d_volume_in : He.DefD := ⟨("volume_in", none), "volume_in", "volume_in", defArgs s_volume_in, defBody s_volume_in, defScope s_volume_in, [], []⟩
def d_tank_with : He.DefD := ⟨("tank_with", none), "tank_with", "tank_with", defArgs s_tank_with, defBody s_tank_with, defScope s_tank_with, [], []⟩
def d_part_allowed : He.DefD := ⟨("part_allowed", none), "part_allowed", "part_allowed", defArgs s_part_allowed, defBody s_part_allowed, defScope s_part_allowed, [], []⟩
def d_may_blend : He.DefD := ⟨("may_blend", none), "may_blend", "may_blend", defArgs s_may_blend, defBody s_may_blend, defScope s_may_blend, [], []⟩
def d_put_in : He.DefD := ⟨("put_in", none), "put_in", "put_in", defArgs s_put_in, defBody s_put_in, defScope s_put_in, [], []⟩
def d_law_mix : He.DefD := ⟨("_law_mix", none), "_law_mix", "_law_mix", defArgs s_law_mix, defBody s_law_mix, defScope s_law_mix, [], []⟩
def d_law_at : He.DefD := ⟨("_law_at", none), "_law_at", "_law_at", defArgs s_law_at, defBody s_law_at, defScope s_law_at, [], []⟩
def d_law_wares : He.DefD := ⟨("_law_wares", none), "_law_wares", "_law_wares", defArgs s_law_wares, defBody s_law_wares, defScope s_law_wares, [], []⟩
def d_law_bounds : He.DefD := ⟨("_law_bounds", none), "_law_bounds", "_law_bounds", defArgs s_law_bounds, defBody s_law_bounds, defScope s_law_bounds, [], []⟩
def d_law_frac : He.DefD := ⟨("_law_frac", none), "_law_frac", "_law_frac", defArgs s_law_frac, defBody s_law_frac, defScope s_law_frac, [], []⟩
def d_law_right : He.DefD := ⟨("_law_right", none), "_law_right", "_law_right", defArgs s_law_right, defBody s_law_right, defScope s_law_right, [], []⟩
def d_law_edge : He.DefD := ⟨("_law_edge", none), "_law_edge", "_law_edge", defArgs s_law_edge, defBody s_law_edge, defScope s_law_edge, [], []⟩
def d_law_put : He.DefD := ⟨("_law_put", none), "_law_put", "_law_put", defArgs s_law_put, defBody s_law_put, defScope s_law_put, [], []⟩
def d_law_round : He.DefD := ⟨("_law_round", none), "_law_round", "_law_round", defArgs s_law_round, defBody s_law_round, defScope s_law_round, [], []⟩
def d_law : He.DefD := ⟨("law", none), "law", "law", defArgs s_law, defBody s_law, defScope s_law, [], []⟩
def fn0 : List He.DefD := [d_common_part, d_made, d_sum_of, d_times, d_below, d_TankU_initU, d_shares_together, d_volume_in, d_tank_with, d_part_allowed, d_may_blend, d_put_in, d_law_mix, d_law_at, d_law_wares, d_law_bounds, d_law_frac, d_law_right, d_law_edge, d_law_put, d_law_round, d_law]
def fn : List He.DefD := fn0
def fa0 : List He.Fa := [.glo "common_part", .glo "made", .glo "sum_of", .glo "times", .glo "below", .glo "Tank", .glo "shares_together", .glo "volume_in", .glo "tank_with", .glo "part_allowed", .glo "may_blend", .glo "put_in", .glo "_law_mix", .glo "_law_at", .glo "_law_wares", .glo "_law_bounds", .glo "_law_frac", .glo "_law_right", .glo "_law_edge", .glo "_law_put", .glo "_law_round", .glo "law", .free "abs", .free "bool", .free "enumerate", .free "isinstance", .free "len", .free "list", .free "range", .free "sorted"]
def fa1 : List He.Fa := [.free "sum", .cls "Tank", .noat "Tank" "ware", .noat "Tank" "low", .noat "Tank" "high", .noat "Tank" "start", .noat "Tank" "settle", .noat "Tank" "holds", .noat "Tank" "rested", .mkr "Tank"]
def fa : List He.Fa := fa0 ++ fa1
def loose0 : List PySem.Str := ["__name__", "common_part", "made", "sum_of", "times", "below", "Tank", "shares_together", "volume_in", "tank_with", "part_allowed", "may_blend", "put_in", "_law_mix", "_law_at", "_law_wares", "_law_bounds", "_law_frac", "_law_right", "_law_edge", "_law_put", "_law_round"]
def loose : List PySem.Str := loose0
abbrev R : PySem.W.OpenRow := PySem.W.OpenLaw.row PySem.Challenge.rw_batchpipe_k41_may_blend
abbrev hk : PySem.W.Hook := He.hookD 4 fa fn
def ob (s : PySem.W.SharedT) : He.AlD := He.obsDG 4 fa fn (HandSHeadRun.getT s)
theorem ob_eq (s : PySem.W.SharedT) : ob s = hk.obs s.abs := He.obsDG_eq (HandSHeadRun.getT_eq s)
theorem run (w : World) : HandSHeadRun.RunEq R (PySem.W.view R.prog [24]) hk ob 4000 loose w := by
  intro os
  kernel_rfl
end G
set_option pp.deepTerms false
set_option pp.deepTerms.threshold 4
set_option Elab.async false
set_option linter.all false
set_option maxRecDepth 100000
set_option maxHeartbeats 4000000
namespace G
open PySem PySem.Spec PyProof.Rows L2 DS
section
variable {P : Program} {w : World} {K : PySem.W.Frag} {mg : Str → Option Value} {base : Heap}
abbrev N_common_part : List Str := ["one", "other"]
def sp_common_part : DSp := fun ds M Q _ => ∃ a b : Nat, ds = [.i a, .i b] ∧ Q (.i (Nat.gcd a b : Nat)) M
theorem sc_common_part : FnScope ["one", "other"] ["one", "other"] (defScope s_common_part) := ⟨rfl, rfl, rfl, by decide +kernel, rfl, by decide +kernel, by decide +kernel⟩
theorem ok_common_part  {f : Addr} {fd : FuncData} (F : FunD K "common_part" "common_part" (defArgs s_common_part) (defBody s_common_part) (defScope s_common_part) [] [] f fd)  : FnOk P w K mg base CX0 1 f fd ["one", "other"] (upSp K sp_common_part) := by
  refine fn_mk F sc_common_part (fun ds M Q XE h => by
    obtain ⟨_, _, rfl, _⟩ := h; rfl) (fun cdv A outer s H E hr => ?_)
  have hu := hu_of hr
  have hu4 := hr.units
  have hu5 := units65 hr
  refine ⟨_, _, by
    exact (ss_cons (s_while PassesOwn.never (b_cmp (o_ne hu4) (ev 1) e_int) (ss_one (s_par (i := 0) (j := 1) rfl sc_common_part.nd rfl rfl (by decide) rfl rfl (a_cons (ev 1) (a_cons (e_op o_mod (ev 0) (ev 1)) a_nil)) (by rfl))))
      (ss_one (s_ret (ev 0)))), ?_⟩
  rintro ds M Q XE ⟨a, b, rfl, q⟩
  refine ⟨fun m E M' => ∃ a' b' : Nat, m = b' ∧ E = [some (.i a'), some (.i b')] ∧ M' = M ∧ Nat.gcd a' b' = Nat.gcd a b, ⟨b, a, b, rfl, rfl, rfl, rfl⟩, ?_⟩
  rintro b' E M' ⟨a', _, rfl, rfl, rfl, hg⟩
  refine ⟨rfl, ?_⟩
  refine if_nd (fun hb => ?_) (fun hb => ?_)
  · have hb : b' ≠ 0 := fun z => hb (by rw [z]; rfl)
    refine ⟨by show (0 : Int) < b'; omega, a' % b', Nat.mod_lt _ (by omega), b', a' % b', rfl, ?_, rfl, ?_⟩
    · show [some (D.i (b' : Int)), some (D.i ((a' : Int) % (b' : Int)))] = _
      rw [Int.natCast_emod]
    · rw [← hg, Nat.gcd_comm b', ← Nat.gcd_rec, Nat.gcd_comm]
  · have hb : b' = 0 := by injection hb with e; omega
    subst hb
    refine ⟨_, SubM.refl _, ?_⟩
    rw [← hg, Nat.gcd_zero_right] at q
    exact q
abbrev N_below : List Str := ["one", "other"]
def sp_below : DSp := fun ds M Q _ => ∃ a b : Rat, ds = [frD a, frD b] ∧ Bd 4000 a ∧ Bd 4000 b ∧ Q (.b (decide (a < b))) M
theorem sc_below : FnScope ["one", "other"] ["one", "other"] (defScope s_below) := ⟨rfl, rfl, rfl, by decide +kernel, rfl, by decide +kernel, by decide +kernel⟩
theorem ok_below  {f : Addr} {fd : FuncData} (F : FunD K "below" "below" (defArgs s_below) (defBody s_below) (defScope s_below) [] [] f fd)  : FnOk P w K mg base CX0 1 f fd ["one", "other"] (upSp K sp_below) := by
  refine fn_mk F sc_below (fun ds M Q XE h => by
    obtain ⟨_, _, rfl, _⟩ := h; rfl) (fun cdv A outer s H E hr => ?_)
  have hu := hu_of hr
  have hu4 := hr.units
  have hu5 := units65 hr
  refine ⟨_, _, by
    exact (ss_one (s_ret (e_cmp (o_lt) (e_op o_mul (e_ix hu (ev 0) e_int) (e_ix hu (ev 1) e_int)) (e_op o_mul (e_ix hu (ev 1) e_int) (e_ix hu (ev 0) e_int))))), ?_⟩
  rintro ds M Q XE ⟨a, b, rfl, ha, hb, q⟩
  obtain ⟨h1, h2, h3, h4, h5, h6⟩ := bd_mul ha hb
  refine ⟨h1, h2, _, SubM.refl _, ?_⟩
  rw [← lt_dec] at q
  exact q
abbrev N_TankU_initU : List Str := ["self", "ware", "low", "high", "start", "settle"]
abbrev A_Tank : List Str := ["ware", "low", "high", "start", "settle", "holds", "rested"]
/-- a tank as it is made -/
def tankD (C : Addr) (ware : Str) (low high start settle : Int) (holds : List D) (rested : D) : D := .obj C A_Tank [.s ware, .i low, .i high, .i start, .i settle, .lst holds, rested]
def sp_TankU_initU (K : PySem.W.Frag) (C : Addr) : DSp := fun ds M Q _ => ∃ (x : Addr) (ware : Str) (low high start settle : Int), ds = [.r x, .s ware, .i low, .i high, .i start, .i settle] ∧ M x = some (.obj C [] []) ∧
  Q (.v .non) (updM M x (.obj C A_Tank [.s ware, .i low, .i high, .i start, .i settle, .lst (if 0 < start then [.tup [.s ware, .tup [.i start, .i 1]]] else []), .tup [.i 0, .i 1]]))
theorem sc_TankU_initU : FnScope ["self", "ware", "low", "high", "start", "settle"] ["self", "ware", "low", "high", "start", "settle"] (defScope s_TankU_initU) := ⟨rfl, rfl, rfl, by decide +kernel, rfl, by decide +kernel, by decide +kernel⟩
theorem ok_TankU_initU {C_Tank : Addr} {f : Addr} {fd : FuncData} (F : FunD K "__init__" "Tank.__init__" (defArgs s_TankU_initU) (defBody s_TankU_initU) (defScope s_TankU_initU) [] [] f fd)  (T_Tank : TC K C_Tank A_Tank) : FnOk P w K mg base CX0 1 f fd ["self", "ware", "low", "high", "start", "settle"] (upSp K (sp_TankU_initU K C_Tank)) := by
  refine fn_mk F sc_TankU_initU (fun ds M Q XE h => by
    obtain ⟨_, _, _, _, _, _, rfl, _⟩ := h; rfl) (fun cdv A outer s H E hr => ?_)
  have hu := hu_of hr
  have hu4 := hr.units
  have hu5 := units65 hr
  refine ⟨_, _, by
    exact (ss_cons (s_fld (ev 0) (ev 1))
      (ss_cons (s_fld (ev 0) (ev 2))
      (ss_cons (s_fld (ev 0) (ev 3))
      (ss_cons (s_fld (ev 0) (ev 4))
      (ss_cons (s_fld (ev 0) (ev 5))
      (ss_cons (s_fld (ev 0) (e_lstC a_nil))
      (ss_cons (s_if (b_cmp (o_gt) (ev 4) e_int) (ss_one (s_expr (e_meth PySem.F.slot_list_append PySem.F.type_list_append m_append (e_fld (ev 0)) (a_cons (e_tup (a_cons (ev 1) (a_cons (e_tup (a_cons (ev 4) (a_cons e_int a_nil))) a_nil))) a_nil)))) ss_nil)
      (ss_one (s_frzF 0 5 (s_fld (ev 0) (e_tup (a_cons e_int (a_cons e_int a_nil))))))))))))), ?_⟩
  rintro ds M Q XE ⟨x, ware, low, high, start, settle, rfl, hM, q⟩
  have fld : ∀ {M : Mem} {C : Addr} {ns : List Str} {ds : List D} {f : Str} {v : D} {N : DEnv → Mem → Prop} {E : DEnv}, M x = some (.obj C ns ds) → Cls K C → NoAttr K C f → ns.length < 1000 → f ∉ ns → N E (updM M x (.obj C (ns ++ [f]) (ds ++ [v]))) →
      ∃ C ns ds, M x = some (.obj C ns ds) ∧ Cls K C ∧ NoAttr K C f ∧ ns.length < 1000 ∧ ((f ∉ ns ∧ N E (updM M x (.obj C (ns ++ [f]) (ds ++ [v])))) ∨ ∃ j, ns.Nodup ∧ ns[j]? = some f ∧ N E (updM M x (.obj C ns (ds.set j v)))) := fun a b c d e g => ⟨_, _, _, a, b, c, d, .inl ⟨e, g⟩⟩
  have na : ∀ f ∈ A_Tank, NoAttr K C_Tank f := T_Tank.na
  have cl := T_Tank.cl
  refine fld hM cl (na _ (by decide)) (by decide) (by decide) ?_
  refine fld updM_same cl (na _ (by decide)) (by decide) (by decide) ?_
  refine fld updM_same cl (na _ (by decide)) (by decide) (by decide) ?_
  refine fld updM_same cl (na _ (by decide)) (by decide) (by decide) ?_
  refine fld updM_same cl (na _ (by decide)) (by decide) (by decide) ?_
  intro p hp
  rw [updM_updM, updM_updM, updM_updM, updM_updM] at hp ⊢
  have ne : p ≠ x := by
    rintro rfl
    rw [updM_same] at hp
    cases hp
  have hp0 : M p = none := by rw [updM_ne ne] at hp; exact hp
  refine fld (by rw [updM_ne (Ne.symm ne)]; exact updM_same) cl (na _ (by decide)) (by decide) (by decide) ?_
  have fin : ∀ (M1 : Mem) (zs : List D), M1 p = some (.lst zs) → M1 x = some (.obj C_Tank ["ware", "low", "high", "start", "settle", "holds"] [.s ware, .i low, .i high, .i start, .i settle, .r p]) → (∀ b, b ≠ p → b ≠ x → M1 b = M b) → zs = (if 0 < start then [.tup [.s ware, .tup [.i start, .i 1]]] else []) →
      dThenF 0 5 (dSetF K "rested" (dTup (dACons (dC (V.int 0)) (dACons (dC (V.int 1)) dANil))) (dVar 0)) { nx := fun x M' => ∃ M'', SubM M'' M' ∧ Q (D.v V.non) M'', rt := fun r M' => ∃ M'', SubM M'' M' ∧ Q r M'' } [some (.r x), some (.s ware), some (.i low), some (.i high), some (.i start), some (.i settle)] M1 := by
    intro M1 zs h1 h2 h3 h4
    refine fld h2 cl (na _ (by decide)) (by decide) (by decide) ?_
    refine ⟨x, _, _, _, p, zs, rfl, updM_same, rfl, by rw [updM_ne ne]; exact h1, ne, _, ?_, q⟩
    rw [← h4]
    intro b c hb
    by_cases e : b = x
    · subst e
      rw [updM_same] at hb ⊢
      exact hb
    · rw [updM_ne e] at hb ⊢
      by_cases e2 : b = p
      · subst e2
        rw [hp0] at hb
        cases hb
      · rw [rmM_ne e2, updM_ne e, h3 b e2 e]
        exact hb
  have hx : ∀ {c c' : Cell}, updM (updM (updM M x c) p (.lst [])) x c' p = some (.lst []) := fun {c c'} => by rw [updM_ne ne, updM_same]
  have hy : ∀ {c c' : Cell} (b : Addr), b ≠ p → b ≠ x → updM (updM (updM M x c) p (.lst [])) x c' b = M b := fun {c c'} b h1 h2 => by rw [updM_ne h2, updM_ne h1, updM_ne h2]
  refine if_d (fun h => ?_) (fun h => ?_)
  · refine ⟨_, updM_same, 5, .r p, T_Tank.fk 5 |> fun z => ⟨cl, na _ (by decide), fun xs hl => lookup_zip (by decide) hl rfl⟩, rfl, ?_, [], hx, by decide, ?_⟩
    · show (lstOf _ (.v (.ref p))).isSome = true
      rw [lstOf_cell hx]
      rfl
    · refine fin _ _ updM_same (by rw [updM_ne (Ne.symm ne), updM_same]; rfl) (fun b h1 h2 => by rw [updM_ne h1]; exact hy b h1 h2) ?_
      rw [if_pos h]
      rfl
  · refine fin _ _ hx (by rw [updM_same]; rfl) hy ?_
    rw [if_neg h]
abbrev N_part_allowed : List Str := ["bounds", "ware", "other", "one", "second", "part"]
def sp_part_allowed : DSp := fun ds M Q _ => ∃ (b : Bn) (w o : Str), ds = [.lst (b.map bnD), .s w, .s o] ∧ PyData.strOk w = true ∧ PyData.strOk o = true ∧ BOk b ∧ Q (.tup [.i (partOf b w o).1, .i (partOf b w o).2]) M
theorem sc_part_allowed : FnScope ["bounds", "ware", "other", "one", "second", "part"] ["bounds", "ware", "other"] (defScope s_part_allowed) := ⟨rfl, rfl, rfl, by decide +kernel, rfl, by decide +kernel, by decide +kernel⟩
theorem ok_part_allowed  {f : Addr} {fd : FuncData} (F : FunD K "part_allowed" "part_allowed" (defArgs s_part_allowed) (defBody s_part_allowed) (defScope s_part_allowed) [] [] f fd)  : FnOk P w K mg base CX0 1 f fd ["bounds", "ware", "other"] (upSp K sp_part_allowed) := by
  refine fn_mk F sc_part_allowed (fun ds M Q XE h => by
    obtain ⟨_, _, _, rfl, _⟩ := h; rfl) (fun cdv A outer s H E hr => ?_)
  have hu := hu_of hr
  have hu4 := hr.units
  have hu5 := units65 hr
  refine ⟨_, _, by
    exact (ss_cons (s_for PassesOwn.never rfl (i_list (ev 0)) (g_tup rfl (g_cons (g_name (i := 3) sc_part_allowed.nd) (g_cons (g_name (i := 4) sc_part_allowed.nd) (g_cons (g_name (i := 5) sc_part_allowed.nd) g_nil))) (ng_cons (ng_cons (ng_cons ng_nil hits_name) hits_name) hits_name)) (ss_one (s_if (b_cmp (o_eq hu4) (e_tup (a_cons (ev 3) (a_cons (ev 4) a_nil))) (e_tup (a_cons (ev 1) (a_cons (ev 2) a_nil)))) (ss_one (s_ret (ev 5))) ss_nil)))
      (ss_one (s_ret (e_tup (a_cons e_int (a_cons e_int a_nil)))))), ?_⟩
  rintro ds M Q XE ⟨b, w, o, rfl, hw, ho, hb, q⟩
  refine loop_ind (f := bnD) (fun r E M' => ∃ x y z, partOf b w o = partOf r w o ∧ (∀ t ∈ r, t ∈ b) ∧ E = [some (.lst (b.map bnD)), some (.s w), some (.s o), x, y, z] ∧ M' = M) ?_ ?_ b _ _ ⟨_, _, _, rfl, fun _ h => h, rfl, rfl⟩
  · rintro t r N hN E M' ⟨x, y, z, e, hm, rfl, rfl⟩
    obtain ⟨h1, h2, _⟩ := hb t (hm t List.mem_cons_self)
    refine ⟨(pl_tup (all_cons (pl_s h1) (all_cons (pl_s h2) all_nil))).plain (k := 1) (by decide), (pl_tup (all_cons (pl_s hw) (all_cons (pl_s ho) all_nil))).plain (k := 1) (by decide), ?_⟩
    show if PyData.eqv (toPy (.tup [.s t.1, .s t.2.1])) (toPy (.tup [.s w, .s o])) = true then _ else _
    rw [eqv_strs]
    refine if_c (fun h => ?_) (fun h => ?_)
    · refine ⟨_, SubM.refl _, ?_⟩
      have e2 : partOf (t :: r) w o = t.2.2 := by
        unfold partOf
        rw [List.find?_cons_of_pos (p := fun t : Str × Str × Int × Int => decide (t.1 = w) && decide (t.2.1 = o)) h]
        rfl
      rw [e, e2] at q
      exact q
    · refine hN _ _ ⟨_, _, _, ?_, fun t ht => hm t (List.mem_cons_of_mem _ ht), rfl, rfl⟩
      rw [e]
      unfold partOf
      rw [List.find?_cons_of_neg (p := fun t : Str × Str × Int × Int => decide (t.1 = w) && decide (t.2.1 = o)) (by rw [h]; exact Bool.false_ne_true)]
  · rintro E M' ⟨x, y, z, e, _, rfl, rfl⟩
    refine ⟨_, SubM.refl _, ?_⟩
    rw [e] at q
    exact q
abbrev N_law_mix : List Str := ["_law_cell", "_law_k", "_law_once"]
def sp_law_mix : DSp := fun ds M Q _ => ∃ c k : Int, ds = [.i c, .i k] ∧ 0 ≤ k ∧ k ≤ 1000000000 ∧ Q (.i (mixI c k)) M
theorem sc_law_mix : FnScope ["_law_cell", "_law_k", "_law_once"] ["_law_cell", "_law_k"] (defScope s_law_mix) := ⟨rfl, rfl, rfl, by decide +kernel, rfl, by decide +kernel, by decide +kernel⟩
theorem ok_law_mix  {f : Addr} {fd : FuncData} (F : FunD K "_law_mix" "_law_mix" (defArgs s_law_mix) (defBody s_law_mix) (defScope s_law_mix) [] [] f fd)  : FnOk P w K mg base CX0 1 f fd ["_law_cell", "_law_k"] (upSp K sp_law_mix) := by
  refine fn_mk F sc_law_mix (fun ds M Q XE h => by
    obtain ⟨_, _, rfl, _⟩ := h; rfl) (fun cdv A outer s H E hr => ?_)
  have hu := hu_of hr
  have hu4 := hr.units
  have hu5 := units65 hr
  refine ⟨_, _, by
    exact (ss_cons (s_set (i := 2) sc_law_mix.nd (e_op o_mod (e_op o_mul (e_op o_add (e_op o_add (e_op o_mod (ev 0) (e_op o_pow e_int e_int)) (e_op o_mul e_int (ev 1))) e_int) (e_op o_add (e_op o_mul (ev 1) (ev 1)) e_int)) e_int))
      (ss_one (s_ret (e_op o_div (e_op o_mod (e_op o_mul (ev 2) (ev 2)) e_int) e_int)))), ?_⟩
  rintro ds M Q XE ⟨c, k, rfl, h0, h1, q⟩
  obtain ⟨a1, a2⟩ := emodT c (b := 10 ^ 30) (by decide)
  have b0 : 0 ≤ k * k := Int.mul_nonneg h0 h0
  have b1 : k * k ≤ 1000000000 * 1000000000 := Int.mul_le_mul h1 h1 h0 (by decide)
  obtain ⟨o1, o2⟩ := emodT ((c % 10 ^ 30 + 7919 * k + 11) * (k * k + 48271)) (b := 2147483647) (by decide)
  refine ⟨⟨by decide, by decide, by decide⟩, (show (0 : Int) < 10 ^ 30 by decide), mulT (by decide) ⟨by omega, by omega⟩, mulT ⟨by omega, by omega⟩ ⟨by omega, by omega⟩, ?_, (show (0 : Int) < 2147483647 by decide), ?_⟩
  · refine mulT ⟨?_, ?_⟩ ⟨by omega, by omega⟩
    · show -(10 ^ 60) ≤ c % 10 ^ 30 + 7919 * k + 11
      omega
    · show c % 10 ^ 30 + 7919 * k + 11 ≤ 10 ^ 60
      omega
  refine ⟨?_, (show (0 : Int) < 2147483629 by decide), divS (by decide) (by decide), _, SubM.refl _, q⟩
  refine mulT ⟨?_, ?_⟩ ⟨?_, ?_⟩ <;> (first | (show -(10 ^ 60) ≤ (c % 10 ^ 30 + 7919 * k + 11) * (k * k + 48271) % 2147483647; omega) | (show (c % 10 ^ 30 + 7919 * k + 11) * (k * k + 48271) % 2147483647 ≤ 10 ^ 60; omega))
abbrev N_law_at : List Str := ["_law_script", "_law_k"]
def sp_law_at : DSp := fun ds M Q _ => ∃ (xs : List Int) (k : Int), ds = [.ro (intsD xs), .i k] ∧ 0 ≤ k ∧ ∀ c, Q (.i c) M
theorem sc_law_at : FnScope ["_law_script", "_law_k"] ["_law_script", "_law_k"] (defScope s_law_at) := ⟨rfl, rfl, rfl, by decide +kernel, rfl, by decide +kernel, by decide +kernel⟩
theorem ok_law_at  {f : Addr} {fd : FuncData} (F : FunD K "_law_at" "_law_at" (defArgs s_law_at) (defBody s_law_at) (defScope s_law_at) [] [] f fd) (g_len : mg "len" = none) : FnOk P w K mg base CX0 1 f fd ["_law_script", "_law_k"] (upSp K sp_law_at) := by
  refine fn_mk F sc_law_at (fun ds M Q XE h => by
    obtain ⟨_, _, rfl, _⟩ := h; rfl) (fun cdv A outer s H E hr => ?_)
  have hu := hu_of hr
  have hu4 := hr.units
  have hu5 := units65 hr
  refine ⟨_, _, by
    exact (ss_cons (s_if (b_cmp (o_lt) (ev 1) (e_callB c_len g_len (a_cons (ev 0) a_nil))) (ss_one (s_ret (e_ix hu (ev 0) (ev 1)))) ss_nil)
      (ss_one (s_ret (e_op o_sub (e_callB c_len g_len (a_cons (ev 0) a_nil)) (ev 1))))), ?_⟩
  rintro ds M Q XE ⟨xs, k, rfl, h0, q⟩
  refine if_d (fun h => ?_) (fun h => ?_)
  · have h' : k < (intsD xs).length := h
    have e : (intsD xs).length = xs.length := by
      unfold intsD
      rw [List.length_map]
    obtain ⟨c, hc, _⟩ := seqAt_ok (xs := xs) h0 (by rw [← e]; exact h')
    obtain ⟨n, rfl⟩ := Int.eq_ofNat_of_zero_le h0
    refine ⟨.i c, ?_, _, SubM.refl _, q c⟩
    have hc' : xs[n]? = some c := hc
    show (xs.map _)[n]? = _
    rw [List.getElem?_map, hc']
    rfl
  · exact ⟨_, SubM.refl _, q _⟩
abbrev N_law_frac : List Str := ["_law_number", "_law_parts", "_law_one", "_law_other"]
def sp_law_frac : DSp := fun ds M Q _ => ∃ n p : Int, ds = [.i n, .i p] ∧ 0 < p ∧ p.natAbs < 2 ^ 9000 ∧ Q (frD (mkRat n p.toNat)) M
theorem sc_law_frac : FnScope ["_law_number", "_law_parts", "_law_one", "_law_other"] ["_law_number", "_law_parts"] (defScope s_law_frac) := ⟨rfl, rfl, rfl, by decide +kernel, rfl, by decide +kernel, by decide +kernel⟩
theorem ok_law_frac  {f : Addr} {fd : FuncData} (F : FunD K "_law_frac" "_law_frac" (defArgs s_law_frac) (defBody s_law_frac) (defScope s_law_frac) [] [] f fd) (g_abs : mg "abs" = none) : FnOk P w K mg base CX0 1 f fd ["_law_number", "_law_parts"] (upSp K sp_law_frac) := by
  refine fn_mk F sc_law_frac (fun ds M Q XE h => by
    obtain ⟨_, _, rfl, _⟩ := h; rfl) (fun cdv A outer s H E hr => ?_)
  have hu := hu_of hr
  have hu4 := hr.units
  have hu5 := units65 hr
  refine ⟨_, _, by
    exact (ss_cons (s_set (i := 2) sc_law_frac.nd (ev 1))
      (ss_cons (s_set (i := 3) sc_law_frac.nd (e_callB c_abs g_abs (a_cons (ev 0) a_nil)))
      (ss_cons (s_while PassesOwn.never (b_cmp (o_ne hu4) (ev 3) e_int) (ss_one (s_par (i := 2) (j := 3) rfl sc_law_frac.nd rfl rfl (by decide) rfl rfl (a_cons (ev 3) (a_cons (e_op o_mod (ev 2) (ev 3)) a_nil)) (by rfl))))
      (ss_one (s_ret (e_tup (a_cons (e_op o_div (ev 0) (ev 2)) (a_cons (e_op o_div (ev 1) (ev 2)) a_nil)))))))), ?_⟩
  rintro ds M Q XE ⟨n, p, rfl, hp, hs, q⟩
  refine ⟨fun m E M' => ∃ a' b' : Nat, m = b' ∧ E = [some (.i n), some (.i p), some (.i a'), some (.i b')] ∧ M' = M ∧ Nat.gcd a' b' = Nat.gcd p.natAbs n.natAbs, ⟨n.natAbs, p.natAbs, n.natAbs, rfl, ?_, rfl, rfl⟩, ?_⟩
  · show [some (D.i n), some (D.i p), some (D.i p), some (D.i (if n < 0 then -n else n))] = _
    rw [abs_ite, Int.natAbs_of_nonneg (by omega : 0 ≤ p)]
  rintro b' E M' ⟨a', _, rfl, rfl, rfl, hg⟩
  refine ⟨rfl, ?_⟩
  refine if_nd (fun hb => ?_) (fun hb => ?_)
  · have hb : b' ≠ 0 := fun z => hb (by rw [z]; rfl)
    refine ⟨by show (0 : Int) < b'; omega, a' % b', Nat.mod_lt _ (by omega), b', a' % b', rfl, ?_, rfl, ?_⟩
    · show [some (D.i n), some (D.i p), some (D.i (b' : Int)), some (D.i ((a' : Int) % (b' : Int)))] = _
      rw [Int.natCast_emod]
    · rw [← hg, Nat.gcd_comm b', ← Nat.gcd_rec, Nat.gcd_comm]
  · have hb : b' = 0 := by injection hb with e; omega
    subst hb
    rw [Nat.gcd_zero_right] at hg
    rw [hg]
    refine ⟨gcd_div n hp hs _, gcd_div n hp hs _, _, SubM.refl _, ?_⟩
    rw [frD_made n hp] at q
    exact q
abbrev N_law_right : List Str := ["_law_ware", "_law_twelfths", "_law_bounds_here", "_law_total", "_law_name", "_law_many", "_law_triple", "_law_part"]
def sp_law_right : DSp := fun ds M Q _ => ∃ (ware : Str) (a : Addr) (T : Am) (b : Bn), ds = [.s ware, .r a, .lst (b.map bnD)] ∧ M a = some (.dct (dk .i T)) ∧ PyData.strOk ware = true ∧ SOk T ∧ NN T ∧ BOk b ∧ b.length ≤ 36 ∧ tot T < 2 ^ 100 ∧
  Q (.b (T.all fun p => decide (p.1 = ware) || !decide (tot T * (partOf b ware p.1).1 < p.2 * (partOf b ware p.1).2))) M
theorem sc_law_right : FnScope ["_law_ware", "_law_twelfths", "_law_bounds_here", "_law_total", "_law_name", "_law_many", "_law_triple", "_law_part"] ["_law_ware", "_law_twelfths", "_law_bounds_here"] (defScope s_law_right) := ⟨rfl, rfl, rfl, by decide +kernel, rfl, by decide +kernel, by decide +kernel⟩
theorem ok_law_right  {f : Addr} {fd : FuncData} (F : FunD K "_law_right" "_law_right" (defArgs s_law_right) (defBody s_law_right) (defScope s_law_right) [] [] f fd) (g_sum : mg "sum" = none) (g_list : mg "list" = none) : FnOk P w K mg base CX0 1 f fd ["_law_ware", "_law_twelfths", "_law_bounds_here"] (upSp K sp_law_right) := by
  refine fn_mk F sc_law_right (fun ds M Q XE h => by
    obtain ⟨_, _, _, _, rfl, _⟩ := h; rfl) (fun cdv A outer s H E hr => ?_)
  have hu := hu_of hr
  have hu4 := hr.units
  have hu5 := units65 hr
  refine ⟨_, _, by
    exact (ss_cons (s_set (i := 3) sc_law_right.nd (e_callB (c_sum rfl) g_sum (a_cons (e_listVals g_list (ev 1)) a_nil)))
      (ss_cons (s_forItems PassesOwn.never rfl (ev 1) (g_tup rfl (g_cons (g_name (i := 4) sc_law_right.nd) (g_cons (g_name (i := 5) sc_law_right.nd) g_nil)) (ng_cons (ng_cons ng_nil hits_name) hits_name)) (ss_cons (s_set (i := 7) sc_law_right.nd (e_op o_add (e_lc rfl sc_law_right.nd (i_list (ev 2)) (blkOk_by (own := [("_law_triple", 6)]) (N := N_law_right) (sc := defScope s_law_right) (by decide +kernel)) (by exact fun _ _ _ _ _ => (g_name (i := 6) sc_law_right.nd)) (by exact fun _ _ _ _ _ => ts_one (b_cmp (o_eqK (K := K) rfl hu4) (e_sliceK (K := K) rfl (ev 6) p_none (p_some e_int)) (e_tup (a_cons (ev 0) (a_cons (ev 4) a_nil))))) (by exact fun _ _ _ _ _ => (e_ixK (K := K) rfl hu (ev 6) e_int))) (e_lst (a_cons (e_tup (a_cons e_int (a_cons e_int a_nil))) a_nil))))
      (ss_one (s_if (b_w (bw_and (b_cmp (o_ne hu4) (ev 4) (ev 0)) (bw_and1 (b_cmp (o_gt) (e_op o_mul (ev 5) (e_ix hu (e_ix hu (ev 7) e_int) e_int)) (e_op o_mul (e_ix hu (e_ix hu (ev 7) e_int) e_int) (ev 3)))))) (ss_one (s_ret e_bl)) ss_nil))))
      (ss_one (s_ret e_bl)))), ?_⟩
  rintro ds M Q XE ⟨ware, a, T, b, rfl, hM, hw, sT, nT, hb, hbl, ht, q⟩
  refine ⟨_, hM, T.map (·.2), congrArg some (vals_i T), ?_⟩
  rw [sum_tot]
  refine ⟨a, _, hM, rfl, ?_⟩
  rw [items_i]
  generalize hP : (fun p : Str × Int => decide (p.1 = ware) || !decide (tot T * (partOf b ware p.1).1 < p.2 * (partOf b ware p.1).2)) = P at q
  have back : updM (rmM M a) a (.dct (dk .i T)) = M := by
    rw [updM_rmM]
    funext x
    by_cases e : x = a
    · rw [e, updM_same, hM]
    · rw [updM_ne e]
  refine loop_ind (f := am) (fun r E M' => ∃ x y z, T.all P = r.all P ∧ (∀ p ∈ r, p ∈ T) ∧ E = [some (.s ware), some (.r a), some (.lst (b.map bnD)), some (.i (tot T)), x, y, none, z] ∧ M' = rmM M a) ?_ ?_ T _ _ ⟨_, _, _, rfl, fun _ h => h, rfl, rfl⟩
  · rintro z r N hN E M' ⟨x, y, k, e, hm, rfl, rfl⟩
    have hz := hm z List.mem_cons_self
    have hPz : P z = (decide (z.1 = ware) || !decide (tot T * (partOf b ware z.1).1 < z.2 * (partOf b ware z.1).2)) := by rw [← hP]
    have next : ∀ k', P z = true → N [some (.s ware), some (.r a), some (.lst (b.map bnD)), some (.i (tot T)), some (.s z.1), some (.i z.2), none, k'] (rmM M a) := fun k' hp => hN _ _ ⟨_, _, _, by rw [e, List.all_cons, hp, Bool.true_and], fun p hp => hm p (List.mem_cons_of_mem _ hp), rfl, rfl⟩
    conv => whnf
    refine comp_pure (f := bnD) (p := fun t => decide (t.1 = ware) && decide (t.2.1 = z.1)) (h := fun t => D.tup [.i t.2.2.1, .i t.2.2.2]) b [] (fun t ht N1 N0 k1 k0 => ?_) (by rw [List.length_nil, Nat.zero_add]; exact line_of (by omega)) ?_
    · obtain ⟨h1, h2, _⟩ := hb t ht
      refine ⟨(fun h => by have h2 : (2 : Nat) = 3 := h.2; cases h2), (pl_tup (all_cons (pl_s h1) (all_cons (pl_s h2) all_nil))).plain (k := 1) (by decide), (pl_tup (all_cons (pl_s hw) (all_cons (pl_s (sT z hz)) all_nil))).plain (k := 1) (by decide), ?_⟩
      show if PyData.eqv (toPy (.tup [.s t.1, .s t.2.1])) (toPy (.tup [.s ware, .s z.1])) = true then _ else _
      rw [eqv_strs]
      exact if_c k1 k0
    · refine ⟨_, _, rfl, rfl, ?_, rfl, ?_⟩
      · rw [List.nil_append, List.length_map]
        have := List.length_filter_le (fun t : Str × Str × Int × Int => decide (t.1 = ware) && decide (t.2.1 = z.1)) b
        exact line_of (by simp only [List.length_cons, List.length_nil]; omega)
      show if (!decide (V.str z.1 = V.str ware)) = true then _ else _
      rw [dstr]
      refine if_nd (fun h => ?_) (fun h => ?_)
      · rw [decide_eq_false h, Bool.false_or] at hPz
        obtain ⟨p1, p2, p3, p4⟩ := partOf_ok (w := ware) (o := z.1) hb
        have z0 := nT z hz
        have z1 := mem_le_tot nT hz
        refine ⟨_, part_head b ware z.1, mulT ⟨by omega, by omega⟩ ⟨by omega, by omega⟩, _, part_head b ware z.1, mulT ⟨by omega, by omega⟩ ⟨by omega, by omega⟩, ?_⟩
        refine if_d (fun h => ?_) (fun h => ?_)
        · have h : (partOf b ware z.1).1 * tot T < z.2 * (partOf b ware z.1).2 := h
          rw [Int.mul_comm (partOf b ware z.1).1] at h
          rw [decide_eq_true h] at hPz
          rw [e, List.all_cons, hPz] at q
          refine ⟨M, ?_, q⟩
          rw [back]
          exact SubM.refl _
        · have h : ¬ (partOf b ware z.1).1 * tot T < z.2 * (partOf b ware z.1).2 := h
          rw [Int.mul_comm (partOf b ware z.1).1] at h
          rw [decide_eq_false h] at hPz
          exact next _ hPz
      · rw [decide_eq_true h, Bool.true_or] at hPz
        exact if_f rfl (next _ hPz)
  · rintro E M' ⟨x, y, z, e, _, rfl, rfl⟩
    rw [e] at q
    refine ⟨M, ?_, q⟩
    rw [back]
    exact SubM.refl _
abbrev N_law_edge : List Str := ["_law_bounds_here", "_law_ware", "_law_one", "_law_triple", "_law_some", "_law_name", "_law_n", "_law_d", "_law_m"]
def sp_law_edge : DSp := fun ds M Q _ => ∃ (b : Bn) (ware : Str) (one : Int), ds = [.lst (b.map bnD), .s ware, .i one] ∧ 0 ≤ one ∧ PyData.strOk ware = true ∧ BOk b ∧ b.length ≤ 36 ∧ Q .n M ∧
  ∀ (w : Str) (x y : Int), PyData.strOk w = true → 0 ≤ x → x ≤ 1000000 → 0 ≤ y → y ≤ 1000000 → Q (.lst [am (ware, x), am (w, y)]) M
theorem sc_law_edge : FnScope ["_law_bounds_here", "_law_ware", "_law_one", "_law_triple", "_law_some", "_law_name", "_law_n", "_law_d", "_law_m"] ["_law_bounds_here", "_law_ware", "_law_one"] (defScope s_law_edge) := ⟨rfl, rfl, rfl, by decide +kernel, rfl, by decide +kernel, by decide +kernel⟩
theorem ok_law_edge  {f : Addr} {fd : FuncData} (F : FunD K "_law_edge" "_law_edge" (defArgs s_law_edge) (defBody s_law_edge) (defScope s_law_edge) [] [] f fd) (g_len : mg "len" = none) : FnOk P w K mg base CX0 1 f fd ["_law_bounds_here", "_law_ware", "_law_one"] (upSp K sp_law_edge) := by
  refine fn_mk F sc_law_edge (fun ds M Q XE h => by
    obtain ⟨_, _, _, rfl, _⟩ := h; rfl) (fun cdv A outer s H E hr => ?_)
  have hu := hu_of hr
  have hu4 := hr.units
  have hu5 := units65 hr
  refine ⟨_, _, by
    exact (ss_cons (s_setLc (i := 4) rfl sc_law_edge.nd rfl (sw_true rfl rfl rfl (by decide +kernel)) (i_list (ev 0)) (blkOk_by (own := [("_law_triple", 3)]) (N := N_law_edge) (sc := defScope s_law_edge) (by decide +kernel)) (by exact fun _ _ _ _ _ => (g_name (i := 3) sc_law_edge.nd)) (by exact fun _ _ _ _ _ => ts_one (b_w (bw_and (b_cmp (o_eqK (K := K) rfl hu4) (e_ixK (K := K) rfl hu (ev 3) e_int) (ev 1)) (bw_and1 (b_chain (o_lt) (o_lt) e_int (e_ixK (K := K) rfl hu (e_ixK (K := K) rfl hu (ev 3) e_int) e_int) (e_ixK (K := K) rfl hu (e_ixK (K := K) rfl hu (ev 3) e_int) e_int)))))) (by exact fun _ _ _ _ _ => (ev 3)))
      (ss_cons (s_if (b_cmp (o_eq hu4) (e_callB c_len g_len (a_cons (ev 4) a_nil)) e_int) (ss_one (s_ret e_non)) ss_nil)
      (ss_cons (s_asg (e_slice (e_ix hu (ev 4) (e_op o_mod (ev 2) (e_callB c_len g_len (a_cons (ev 4) a_nil)))) (p_some e_int) p_none) (g_tup rfl (g_cons (g_name (i := 5) sc_law_edge.nd) (g_cons (g_tup rfl (g_cons (g_name (i := 6) sc_law_edge.nd) (g_cons (g_name (i := 7) sc_law_edge.nd) g_nil)) (ng_cons (ng_cons ng_nil hits_name) hits_name)) g_nil)) (ng_cons (ng_cons ng_nil (hits_tup (hits_cons hits_name (hits_cons hits_name hits_nil)))) hits_name)))
      (ss_cons (s_set (i := 8) sc_law_edge.nd (e_op o_mul e_int (e_op o_add e_int (e_op o_mod (e_op o_div (ev 2) e_int) e_int))))
      (ss_one (s_ret (e_lst (a_cons (e_tup (a_cons (ev 1) (a_cons (e_op o_mul (e_op o_sub (ev 7) (ev 6)) (ev 8)) a_nil))) (a_cons (e_tup (a_cons (ev 5) (a_cons (e_op o_sub (e_op o_add (e_op o_mul (ev 6) (ev 8)) (e_op o_mod (e_op o_div (ev 2) e_int) e_int)) e_int) a_nil))) a_nil))))))))), ?_⟩
  rintro ds M Q XE ⟨b, ware, one, rfl, h0, hw, hb, hbl, q1, q2⟩
  conv => whnf
  refine comp_pure (f := bnD) (p := fun t => decide (t.1 = ware) && (decide (0 < t.2.2.1) && decide (t.2.2.1 < t.2.2.2))) (h := bnD) b [] (fun t ht N1 N0 k1 k0 => ?_) (by rw [List.length_nil, Nat.zero_add]; exact line_of (by omega)) ?_
  · refine ⟨rfl, ?_⟩
    show if decide (V.str t.1 = V.str ware) = true then _ else _
    rw [dstr]
    refine if_c (fun h => ?_) (fun h => if_f rfl (k0 (by rw [h]; rfl)))
    refine ⟨_, rfl, ?_⟩
    refine if_c (fun h2 => ?_) (fun h2 => ?_)
    · have h2 : decide (0 < t.2.2.1) = true := h2
      refine if_c (fun h3 => k1 ?_) (fun h3 => k0 ?_)
      · have h3 : decide (t.2.2.1 < t.2.2.2) = true := h3
        rw [h, h2, h3]
        rfl
      · have h3 : decide (t.2.2.1 < t.2.2.2) = false := h3
        rw [h, h2, h3]
        rfl
    · have h2 : decide (0 < t.2.2.1) = false := h2
      refine if_f rfl (k0 ?_)
      rw [h, h2]
      rfl
  · have hsome : ∀ t ∈ b.filter (fun t => decide (t.1 = ware) && (decide (0 < t.2.2.1) && decide (t.2.2.1 < t.2.2.2))), t ∈ b ∧ 0 < t.2.2.1 ∧ t.2.2.1 < t.2.2.2 := fun t ht => by
      obtain ⟨a, c⟩ := List.mem_filter.mp ht
      obtain ⟨_, c⟩ := Bool.and_eq_true_iff.mp c
      obtain ⟨c1, c2⟩ := Bool.and_eq_true_iff.mp c
      exact ⟨a, of_decide_eq_true c1, of_decide_eq_true c2⟩
    generalize b.filter (fun t => decide (t.1 = ware) && (decide (0 < t.2.2.1) && decide (t.2.2.1 < t.2.2.2))) = so at hsome ⊢
    refine ⟨rfl, ?_⟩
    refine if_d (fun h => ⟨_, SubM.refl _, q1⟩) (fun h => ?_)
    have h : ¬ V.int (([] ++ so.map bnD).length : Nat) = V.int 0 := h
    have hlen : 0 < (([] ++ so.map bnD).length : Int) := by
      have : ¬ ((([] ++ so.map bnD).length : Nat) : Int) = 0 := fun z => h (by rw [z])
      omega
    obtain ⟨m1, m2⟩ := emodT one hlen
    obtain ⟨d, hd, hdm⟩ := seqAt_ok m1 m2
    obtain ⟨t, ht, rfl⟩ := List.mem_map.mp (by rw [List.nil_append] at hdm; exact hdm)
    obtain ⟨tb, t1, t2⟩ := hsome t ht
    obtain ⟨s1, s2, _, _, _, s5⟩ := hb t tb
    obtain ⟨e1, e2⟩ := emodT (one / 7) (b := 30) (by decide)
    obtain ⟨g1, g2⟩ := emodT (one / 210) (b := 3) (by decide)
    refine ⟨hlen, _, hd, (fun h => by have h2 : (1 : Nat) = 0 := h.1; cases h2), ?_⟩
    refine ⟨divS (by decide) (by decide), (show (0 : Int) < 30 by decide), mulT (by decide) ⟨by omega, by omega⟩, ?_⟩
    have a0 : 12 ≤ 12 * (1 + one / 7 % 30) := by omega
    have a1 : 12 * (1 + one / 7 % 30) ≤ 360 := by omega
    obtain ⟨m, hm⟩ : ∃ m, m = 12 * (1 + one / 7 % 30) := ⟨_, rfl⟩
    refine ⟨mulT ⟨by omega, by omega⟩ ⟨by omega, by omega⟩, mulT ⟨by omega, by omega⟩ ⟨by omega, by omega⟩, divS (by decide) (by decide), (show (0 : Int) < 3 by decide), M, SubM.refl _, ?_⟩
    rw [← hm] at a0 a1
    have b1 : 0 ≤ (t.2.2.2 - t.2.2.1) * m := Int.mul_nonneg (by omega) (by omega)
    have b2 : (t.2.2.2 - t.2.2.1) * m ≤ 1000 * 360 := Int.mul_le_mul (by omega) a1 (by omega) (by decide)
    have c1 : 1 * 12 ≤ t.2.2.1 * m := Int.mul_le_mul (by omega) a0 (by decide) (by omega)
    have c2 : t.2.2.1 * m ≤ 1000 * 360 := Int.mul_le_mul (by omega) a1 (by omega) (by decide)
    rw [hm] at b1 b2 c1 c2
    exact q2 t.2.1 _ _ s2 b1 (by omega) (by omega) (by omega)
abbrev N_made : List Str := ["number", "parts", "by"]
def sp_made : DSp := fun ds M Q _ => ∃ n p : Int, ds = [.i n, .i p] ∧ 0 < p ∧ p.natAbs < 2 ^ 9000 ∧ Q (frD (mkRat n p.toNat)) M
theorem sc_made : FnScope ["number", "parts", "by"] ["number", "parts"] (defScope s_made) := ⟨rfl, rfl, rfl, by decide +kernel, rfl, by decide +kernel, by decide +kernel⟩
theorem ok_made  {f : Addr} {fd : FuncData} (F : FunD K "made" "made" (defArgs s_made) (defBody s_made) (defScope s_made) [] [] f fd) (G_common_part : Fn P w K mg base CX0 1 "common_part" ["one", "other"] [] sp_common_part) (g_abs : mg "abs" = none) : FnOk P w K mg base CX0 2 f fd ["number", "parts"] (upSp K sp_made) := by
  refine fn_mk F sc_made (fun ds M Q XE h => by
    obtain ⟨_, _, rfl, _⟩ := h; rfl) (fun cdv A outer s H E hr => ?_)
  have hu := hu_of hr
  have hu4 := hr.units
  have hu5 := units65 hr
  refine ⟨_, _, by
    exact (ss_cons (s_if (b_cmp (o_lt) (ev 1) e_int) (ss_one (s_par (i := 0) (j := 1) rfl sc_made.nd rfl rfl (by decide) rfl rfl (a_cons (e_neg (ev 0)) (a_cons (e_neg (ev 1)) a_nil)) (by rfl))) ss_nil)
      (ss_cons (s_set (i := 2) sc_made.nd (e_call G_common_part (hr.mono (by decide)) rfl (a_cons (ev 1) (a_cons (e_callB c_abs g_abs (a_cons (ev 0) a_nil)) a_nil))))
      (ss_one (s_ret (e_tup (a_cons (e_op o_div (ev 0) (ev 2)) (a_cons (e_op o_div (ev 1) (ev 2)) a_nil))))))), ?_⟩
  rintro ds M Q XE ⟨n, p, rfl, hp, hs, q⟩
  refine if_d (fun z => absurd z (by show ¬ p < 0; omega)) (fun _ => ?_)
  refine ⟨p.natAbs, n.natAbs, ?_, gcd_div n hp hs _, gcd_div n hp hs _, _, SubM.refl _, ?_⟩
  · show [D.i p, D.i (if n < 0 then -n else n)] = _
    rw [abs_ite, Int.natAbs_of_nonneg (by omega : 0 ≤ p)]
  · rw [frD_made n hp] at q
    exact q
abbrev N_law_wares : List Str := ["_law_cell", "_law_letters", "_law_size", "_law_stem", "_law_k", "_law_place", "_law_sign"]
def sp_law_wares : DSp := fun ds M Q _ => ∃ c : Int, ds = [.i c] ∧ ∀ ws : List Str, ws.length = 6 → WOk ws → Q (.lst (ws.map .s)) M
theorem sc_law_wares : FnScope ["_law_cell", "_law_letters", "_law_size", "_law_stem", "_law_k", "_law_place", "_law_sign"] ["_law_cell"] (defScope s_law_wares) := ⟨rfl, rfl, rfl, by decide +kernel, rfl, by decide +kernel, by decide +kernel⟩
theorem ok_law_wares  {f : Addr} {fd : FuncData} (F : FunD K "_law_wares" "_law_wares" (defArgs s_law_wares) (defBody s_law_wares) (defScope s_law_wares) [] [] f fd) (G_law_mix : Fn P w K mg base CX0 1 "_law_mix" ["_law_cell", "_law_k"] [] sp_law_mix) (g_range : mg "range" = none) : FnOk P w K mg base CX0 2 f fd ["_law_cell"] (upSp K sp_law_wares) := by
  refine fn_mk F sc_law_wares (fun ds M Q XE h => by
    obtain ⟨_, rfl, _⟩ := h; rfl) (fun cdv A outer s H E hr => ?_)
  have hu := hu_of hr
  have hu4 := hr.units
  have hu5 := units65 hr
  refine ⟨_, _, by
    exact (ss_cons (s_set (i := 1) sc_law_wares.nd e_str)
      (ss_cons (s_set (i := 2) sc_law_wares.nd (e_op o_mod (e_call G_law_mix (hr.mono (by decide)) rfl (a_cons (ev 0) (a_cons e_int a_nil))) e_int))
      (ss_cons (s_set (i := 3) sc_law_wares.nd e_str)
      (ss_cons (s_for PassesOwn.never rfl (i_range1 g_range (a_cons e_int a_nil)) (g_name (i := 4) sc_law_wares.nd) (ss_one (s_set (i := 3) sc_law_wares.nd (e_op o_add (ev 3) (e_ix hu (ev 1) (e_op o_mod (e_call G_law_mix (hr.mono (by decide)) rfl (a_cons (ev 0) (a_cons (e_op o_add (ev 4) e_int) a_nil))) e_int))))))
      (ss_cons (s_set (i := 5) sc_law_wares.nd (e_op o_mod (e_call G_law_mix (hr.mono (by decide)) rfl (a_cons (ev 0) (a_cons e_int a_nil))) (e_op o_add (ev 2) e_int)))
      (ss_cons (s_if (b_cmp (o_eq hu4) (e_op o_mod (e_call G_law_mix (hr.mono (by decide)) rfl (a_cons (ev 0) (a_cons e_int a_nil))) e_int) e_int) (ss_one (s_ret (e_lc rfl sc_law_wares.nd (i_range1 g_range (a_cons e_int a_nil)) (blkOk_by (own := [("_law_k", 4)]) (N := N_law_wares) (sc := defScope s_law_wares) (by decide +kernel)) (by exact fun _ _ _ _ _ => (g_name (i := 4) sc_law_wares.nd)) (by exact fun _ _ _ _ _ => ts_nil) (by exact fun _ _ _ _ _ => (e_sliceK (K := K) rfl (ev 3) p_none (p_some (e_op (o_addK (K := K) rfl) (e_op (o_addK (K := K) rfl) (ev 4) e_int) (e_op o_mod (e_callK (K := K) rfl G_law_mix (hr.mono (by decide)) rfl (a_cons (ev 0) (a_cons e_int a_nil))) e_int)))))))) ss_nil)
      (ss_one (s_ret (e_lc rfl sc_law_wares.nd (i_str e_str) (blkOk_by (own := [("_law_sign", 6)]) (N := N_law_wares) (sc := defScope s_law_wares) (by decide +kernel)) (by exact fun _ _ _ _ _ => (g_name (i := 6) sc_law_wares.nd)) (by exact fun _ _ _ _ _ => ts_nil) (by exact fun _ _ _ _ _ => (e_op (o_addK (K := K) rfl) (e_op (o_addK (K := K) rfl) (e_sliceK (K := K) rfl (ev 3) p_none (p_some (ev 5))) (ev 6)) (e_sliceK (K := K) rfl (ev 3) (p_some (ev 5)) (p_some (ev 2)))))))))))))), ?_⟩
  rintro ds M Q XE ⟨c, rfl, q⟩
  have hlet : (("abcdefghijklmnopqrstuvwxyz" : Str)).cps.toList.length = 26 := by decide +kernel
  have hok : PyData.strOk ("abcdefghijklmnopqrstuvwxyz" : Str) = true := by decide +kernel
  have hzl : (("abcdefghijklmnopqrstuvwxyz" : Str)).length ≤ sizeLine := by rw [len_cps, hlet]; exact line_of (by decide)
  refine ⟨c, 1, rfl, by decide, by decide, (show (0 : Int) < 8 by decide), ?_⟩
  have hs := emodT (mixI c 1) (b := 8) (by decide)
  refine ⟨⟨by decide, by decide⟩, ?_⟩
  show dLoop _ _ ((List.range 8).map fun i : Nat => D.i (0 + (i : Int))) _ _ _
  refine loop_ind (f := fun i : Nat => D.i (0 + (i : Int))) (fun r E M' => ∃ z kx, PyData.strOk z = true ∧ z.length + r.length = 8 ∧ (∀ i ∈ r, i < 8) ∧ E = [some (.i c), some (.s "abcdefghijklmnopqrstuvwxyz"), some (.i (mixI c 1 % 8)), some (.s z), kx, none, none] ∧ M' = M) ?_ ?_ _ _ _ ⟨"", none, by decide +kernel, by decide +kernel, fun i hi => List.mem_range.mp hi, rfl, rfl⟩
  · rintro i r N hN E M' ⟨z, kx, hz, hl, hm, rfl, rfl⟩
    have hi := hm i List.mem_cons_self
    refine ⟨c, 0 + (i : Int) + 2, rfl, by omega, by omega, (show (0 : Int) < 26 by decide), ?_⟩
    obtain ⟨e1, e2⟩ := emodT (mixI c (0 + (i : Int) + 2)) (b := 26) (by decide)
    obtain ⟨x, hx, hxm⟩ := seqAt_ok (xs := (("abcdefghijklmnopqrstuvwxyz" : Str)).cps.toList) e1 (by rw [hlet]; exact e2)
    have hlx : (⟨#[x]⟩ : Str).length = 1 := rfl
    rw [List.length_cons] at hl
    refine ⟨x, hzl, hx, by rw [hlx]; exact line_of (by omega), hN _ _ ⟨z ++ ⟨#[x]⟩, _, strOk_app hz (strOk_one (strOk_mem.mp hok x hxm)), by rw [len_app, hlx]; omega, fun j hj => hm j (List.mem_cons_of_mem _ hj), rfl, rfl⟩⟩
  · rintro E M' ⟨z, kx, hz, hl, _, rfl, rfl⟩
    rw [List.length_nil, Nat.add_zero] at hl
    have hzl : z.length ≤ sizeLine := by rw [hl]; exact line_of (by decide)
    obtain ⟨size, hsz⟩ : ∃ s, s = mixI c 1 % 8 := ⟨_, rfl⟩
    rw [← hsz] at hs ⊢
    refine ⟨c, 11, rfl, by decide, by decide, (show (0 : Int) < size + 1 by omega), ?_⟩
    obtain ⟨place, hpl⟩ : ∃ s, s = mixI c 11 % (size + 1) := ⟨_, rfl⟩
    rw [show (D.v (V.int (mixI c 11 % (size + 1)))) = D.i place by rw [hpl]]
    refine ⟨c, 12, rfl, by decide, by decide, (show (0 : Int) < 3 by decide), rfl, ?_⟩
    refine if_d (fun h => ?_) (fun h => ?_)
    · refine ⟨⟨by decide, by decide⟩, ?_⟩
      show dComp _ _ _ _ _ _ ((List.range 6).map fun i : Nat => D.i (0 + (i : Int))) _ _
      refine comp_pure (f := fun i : Nat => D.i (0 + (i : Int))) (p := fun _ => true) (h := fun i : Nat => D.s (cutS z none (some (0 + (i : Int) + 1 + mixI c 13 % 3)))) _ [] (fun i hi N1 N0 k1 k0 => ?_) (by decide) ?_
      · exact ⟨c, 13, rfl, by decide, by decide, (show (0 : Int) < 3 by decide), hzl, k1 rfl⟩
      · refine ⟨_, SubM.refl _, ?_⟩
        have e := q ((List.range 6).map fun i : Nat => cutS z none (some (0 + (i : Int) + 1 + mixI c 13 % 3))) (by rw [List.length_map, List.length_range]) (fun w hw => by
          obtain ⟨i, _, rfl⟩ := List.mem_map.mp hw
          exact strOk_cut hz)
        rw [List.map_map] at e
        exact e
    · refine nextD (ret_lc (diS_c ?_))
      have hsg : PyData.strOk ("fbdace" : Str) = true := by decide +kernel
      refine comp_pure (f := fun i : Nat => D.s ⟨#[i]⟩) (p := fun _ => true) (h := fun i : Nat => D.s (cutS z none (some place) ++ ⟨#[i]⟩ ++ cutS z (some place) (some size))) _ [] (fun i hi N1 N0 k1 k0 => ?_) (by decide) ?_
      · have h1 := len_cut z none (some place)
        have h2 := len_cut z (some place) (some size)
        have h3 : (⟨#[i]⟩ : Str).length = 1 := rfl
        refine ⟨hzl, ?_, hzl, ?_, k1 rfl⟩
        · rw [h3]
          exact line_of (by omega)
        · rw [len_app, h3]
          exact line_of (by omega)
      · refine ⟨_, SubM.refl _, ?_⟩
        have e := q ((("fbdace" : Str)).cps.toList.map fun i : Nat => cutS z none (some place) ++ ⟨#[i]⟩ ++ cutS z (some place) (some size)) (by rw [List.length_map]; decide +kernel) (fun w hw => by
          obtain ⟨i, hi, rfl⟩ := List.mem_map.mp hw
          exact strOk_app (strOk_app (strOk_cut hz) (strOk_one (strOk_mem.mp hsg i hi))) (strOk_cut hz))
        rw [List.map_map] at e
        exact e
abbrev N_law_bounds : List Str := ["_law_cell", "_law_wares_here", "_law_found", "_law_p", "_law_q", "_law_one", "_law_parts"]
def sp_law_bounds : DSp := fun ds M Q _ => ∃ (c : Int) (ws : List Str), ds = [.i c, .lst (ws.map .s)] ∧ ws.length = 6 ∧ WOk ws ∧ ∀ b : Bn, BOk b → b.length ≤ 36 → Q (.lst (b.map bnD)) M
theorem sc_law_bounds : FnScope ["_law_cell", "_law_wares_here", "_law_found", "_law_p", "_law_q", "_law_one", "_law_parts"] ["_law_cell", "_law_wares_here"] (defScope s_law_bounds) := ⟨rfl, rfl, rfl, by decide +kernel, rfl, by decide +kernel, by decide +kernel⟩
theorem ok_law_bounds  {f : Addr} {fd : FuncData} (F : FunD K "_law_bounds" "_law_bounds" (defArgs s_law_bounds) (defBody s_law_bounds) (defScope s_law_bounds) [] [] f fd) (g_range : mg "range" = none) (G_law_mix : Fn P w K mg base CX0 1 "_law_mix" ["_law_cell", "_law_k"] [] sp_law_mix) : FnOk P w K mg base CX0 2 f fd ["_law_cell", "_law_wares_here"] (upSp K sp_law_bounds) := by
  refine fn_mk F sc_law_bounds (fun ds M Q XE h => by
    obtain ⟨_, _, rfl, _⟩ := h; rfl) (fun cdv A outer s H E hr => ?_)
  have hu := hu_of hr
  have hu4 := hr.units
  have hu5 := units65 hr
  refine ⟨_, _, by
    exact (ss_cons (s_set (i := 2) sc_law_bounds.nd (e_lstC a_nil))
      (ss_cons (s_for PassesOwn.never rfl (i_range1 g_range (a_cons e_int a_nil)) (g_name (i := 3) sc_law_bounds.nd) (ss_one (s_for PassesOwn.never rfl (i_range1 g_range (a_cons e_int a_nil)) (g_name (i := 4) sc_law_bounds.nd) (ss_cons (s_set (i := 5) sc_law_bounds.nd (e_call G_law_mix (hr.mono (by decide)) rfl (a_cons (ev 0) (a_cons (e_op o_add (e_op o_add e_int (e_op o_mul e_int (ev 3))) (ev 4)) a_nil))))
      (ss_one (s_if (b_w (bw_and (b_cmp (o_ne hu4) (ev 3) (ev 4)) (bw_and1 (b_cmp (o_gt) (e_op o_mod (ev 5) e_int) e_int)))) (ss_cons (s_set (i := 6) sc_law_bounds.nd (e_ix hu (e_lst (a_cons (e_op o_add e_int (e_op o_mod (e_op o_div (ev 5) e_int) e_int)) (a_cons e_int (a_cons e_int a_nil)))) (e_op o_mod (e_op o_div (ev 5) e_int) e_int)))
      (ss_one (s_expr (e_meth PySem.F.slot_list_append PySem.F.type_list_append m_append (ev 2) (a_cons (e_tup (a_cons (e_ix hu (ev 1) (ev 3)) (a_cons (e_ix hu (ev 1) (ev 4)) (a_cons (e_tup (a_cons (e_op o_mod (e_op o_div (ev 5) e_int) (e_op o_add (ev 6) e_int)) (a_cons (ev 6) a_nil))) a_nil)))) a_nil))))) ss_nil))))))
      (ss_one (s_ret (ef 2))))), ?_⟩
  rintro ds M Q XE ⟨c, ws, rfl, hl, hw, q⟩
  intro p hp
  refine ⟨⟨by decide, by decide⟩, ?_⟩
  show dLoop _ _ ((List.range 6).map fun i : Nat => D.i (0 + (i : Int))) _ _ _
  refine loop_ind (f := fun i : Nat => D.i (0 + (i : Int))) (fun r E M' => ∃ b k1 k2 k3 k4, BOk b ∧ b.length + 6 * r.length ≤ 36 ∧ (∀ i ∈ r, i < 6) ∧ E = [some (.i c), some (.lst (ws.map .s)), some (.r p), k1, k2, k3, k4] ∧ M' = updM M p (.lst (b.map bnD))) ?_ ?_ _ _ _ ⟨[], none, none, none, none, (fun _ h => nomatch h), (by rw [List.length_range]; decide), fun i hi => List.mem_range.mp hi, rfl, rfl⟩
  · rintro i r N hN E M' ⟨b, k1, k2, k3, k4, hb, hbl, hm, rfl, rfl⟩
    have hi := hm i List.mem_cons_self
    rw [List.length_cons] at hbl
    refine ⟨⟨by decide, by decide⟩, ?_⟩
    show dLoop _ _ ((List.range 6).map fun i : Nat => D.i (0 + (i : Int))) _ _ _
    refine loop_ind (f := fun i : Nat => D.i (0 + (i : Int))) (fun r' E M' => ∃ b k2 k3 k4, BOk b ∧ b.length + r'.length + 6 * r.length ≤ 36 ∧ (∀ i ∈ r', i < 6) ∧ E = [some (.i c), some (.lst (ws.map .s)), some (.r p), some (.i (0 + (i : Int))), k2, k3, k4] ∧ M' = updM M p (.lst (b.map bnD))) ?_ ?_ _ _ _ ⟨b, _, _, _, hb, (by rw [List.length_range]; omega), fun i hi => List.mem_range.mp hi, rfl, rfl⟩
    · rintro j r' N' hN' E M' ⟨b, k2, k3, k4, hb, hbl, hm', rfl, rfl⟩
      have hj := hm' j List.mem_cons_self
      rw [List.length_cons] at hbl
      have skip : ∀ k3' k4', N' [some (.i c), some (.lst (ws.map .s)), some (.r p), some (.i (0 + (i : Int))), some (.i (0 + (j : Int))), k3', k4'] (updM M p (.lst (b.map bnD))) := fun k3' k4' => hN' _ _ ⟨b, _, _, _, hb, by omega, fun i hi => hm' i (List.mem_cons_of_mem _ hi), rfl, rfl⟩
      refine ⟨mulT (by decide) ⟨by omega, by omega⟩, c, 600 + 6 * (0 + (i : Int)) + (0 + (j : Int)), rfl, by omega, by omega, rfl, ?_⟩
      have n0 := mixI_nonneg c (600 + 6 * (0 + (i : Int)) + (0 + (j : Int)))
      generalize mixI c (600 + 6 * (0 + (i : Int)) + (0 + (j : Int))) = one at n0 ⊢
      refine if_nd (fun h => ?_) (fun h => skip _ _)
      refine ⟨(show (0 : Int) < 3 by decide), ?_⟩
      refine if_d (fun h2 => ?_) (fun h2 => skip _ _)
      obtain ⟨a1, a2⟩ := emodT (one / 3) (b := 9) (by decide)
      obtain ⟨b1, b2⟩ := emodT (one / 27) (b := 3) (by decide)
      have hparts : ∃ pt : Int, seqAt [D.i (1 + one / 3 % 9), D.i 100, D.i 1000] (one / 27 % 3) = some (.i pt) ∧ 0 < pt ∧ pt ≤ 1000 := by
        have h3 : one / 27 % 3 = 0 ∨ one / 27 % 3 = 1 ∨ one / 27 % 3 = 2 := by omega
        rcases h3 with h3 | h3 | h3 <;> rw [h3]
        · exact ⟨_, rfl, by omega, by omega⟩
        · exact ⟨_, rfl, by omega, by omega⟩
        · exact ⟨_, rfl, by omega, by omega⟩
      obtain ⟨pt, hpt, p0, p1⟩ := hparts
      obtain ⟨w1, hw1, hm1⟩ := seqW (ws := ws) (i := 0 + (i : Int)) (by omega) (by omega)
      obtain ⟨w2, hw2, hm2⟩ := seqW (ws := ws) (i := 0 + (j : Int)) (by omega) (by omega)
      obtain ⟨d1, d2⟩ := emodT (one / 90) (b := pt + 1) (by omega)
      refine ⟨divS (by decide) (by decide), (show (0 : Int) < 9 by decide), divS (by decide) (by decide), (show (0 : Int) < 3 by decide), _, hpt, isL_cell updM_same, _, hw1, _, hw2, divS (by decide) (by decide), (show (0 : Int) < pt + 1 by omega), _, updM_same, ?_, ?_⟩
      · rw [List.length_map]
        exact small1000 (by omega)
      · refine hN' _ _ ⟨b ++ [(w1, w2, one / 90 % (pt + 1), pt)], _, _, _, ?_, ?_, fun i hi => hm' i (List.mem_cons_of_mem _ hi), rfl, ?_⟩
        · intro t ht
          rcases List.mem_append.mp ht with h | h
          · exact hb t h
          · cases List.mem_singleton.mp h
            exact ⟨hw w1 hm1, hw w2 hm2, d1, by show one / 90 % (pt + 1) ≤ pt; omega, p0, p1⟩
        · rw [List.length_append, List.length_singleton]
          omega
        · rw [updM_updM, List.map_append]
          rfl
    · rintro E M' ⟨b, k2, k3, k4, hb, hbl, _, rfl, rfl⟩
      exact hN _ _ ⟨b, _, _, _, _, hb, by rw [List.length_nil] at hbl; omega, fun i hi => hm i (List.mem_cons_of_mem _ hi), rfl, rfl⟩
  · rintro E M' ⟨b, k1, k2, k3, k4, hb, hbl, _, rfl, rfl⟩
    refine ⟨_, updM_same, M, ?_, q b hb (by omega)⟩
    intro a x hx
    have ne : a ≠ p := by
      rintro rfl
      rw [hp] at hx
      cases hx
    rw [rmM_ne ne, updM_ne ne]
    exact hx
abbrev N_law_put : List Str := ["_law_amounts", "_law_name", "_law_many"]
def sp_law_put : DSp := fun ds M Q _ => ∃ l : Am, ds = [.lst (l.map am)] ∧ SOk l ∧ l.length ≤ 1000 ∧ ∀ l' : Am, l'.Perm (posA l) → Q (shD l') M
theorem sc_law_put : FnScope ["_law_amounts", "_law_name", "_law_many"] ["_law_amounts"] (defScope s_law_put) := ⟨rfl, rfl, rfl, by decide +kernel, rfl, by decide +kernel, by decide +kernel⟩
theorem ok_law_put  {f : Addr} {fd : FuncData} (F : FunD K "_law_put" "_law_put" (defArgs s_law_put) (defBody s_law_put) (defScope s_law_put) [] [] f fd) (g_sorted : mg "sorted" = none) (G_law_frac : Fn P w K mg base CX0 1 "_law_frac" ["_law_number", "_law_parts"] [] sp_law_frac) : FnOk P w K mg base CX0 2 f fd ["_law_amounts"] (upSp K sp_law_put) := by
  refine fn_mk F sc_law_put (fun ds M Q XE h => by
    obtain ⟨_, rfl, _⟩ := h; rfl) (fun cdv A outer s H E hr => ?_)
  have hu := hu_of hr
  have hu4 := hr.units
  have hu5 := units65 hr
  refine ⟨_, _, by
    exact (ss_one (s_ret (e_callB (c_sorted hu4) g_sorted (a_cons (e_lc rfl sc_law_put.nd (i_list (ev 0)) (blkOk_by (own := [("_law_name", 1), ("_law_many", 2)]) (N := N_law_put) (sc := defScope s_law_put) (by decide +kernel)) (by exact fun _ _ _ _ _ => (g_tupK (K := K) rfl rfl (g_cons (g_name (i := 1) sc_law_put.nd) (g_cons (g_name (i := 2) sc_law_put.nd) g_nil)) (ng_cons (ng_cons ng_nil hits_name) hits_name))) (by exact fun _ _ _ _ _ => ts_one (b_cmp (o_gt) (ev 2) e_int)) (by exact fun _ _ _ _ _ => (e_tup (a_cons (ev 1) (a_cons (e_callK (K := K) rfl G_law_frac (hr.mono (by decide)) rfl (a_cons (ev 2) (a_cons e_int a_nil))) a_nil))))) a_nil)))), ?_⟩
  rintro ds M Q XE ⟨l, rfl, hs, hl, q⟩
  conv => whnf
  refine comp_pure (f := am) (p := fun p => decide (0 < p.2)) (h := shr) l [] (fun z hz N1 N0 k1 k0 => ?_) (by rw [List.length_nil, Nat.zero_add]; exact line_of hl) ?_
  · refine if_c (fun h => ?_) k0
    exact ⟨z.2, 12, rfl, by decide, by decide, k1 h⟩
  · obtain ⟨l', e1, e2⟩ := sorted_shr (posA l)
    refine ⟨(posA l).map shr, rfl, sort_shr fun a ha => hs a (List.mem_filter.mp ha).1, _, SubM.refl _, ?_⟩
    show Q (.lst (((posA l).map shr).mergeSort leD)) M
    rw [e1]
    exact q l' e2
abbrev N_sum_of : List Str := ["one", "other"]
def sp_sum_of : DSp := fun ds M Q _ => ∃ a b : Rat, ds = [frD a, frD b] ∧ Bd 4000 a ∧ Bd 4000 b ∧ Q (frD (a + b)) M
theorem sc_sum_of : FnScope ["one", "other"] ["one", "other"] (defScope s_sum_of) := ⟨rfl, rfl, rfl, by decide +kernel, rfl, by decide +kernel, by decide +kernel⟩
theorem ok_sum_of  {f : Addr} {fd : FuncData} (F : FunD K "sum_of" "sum_of" (defArgs s_sum_of) (defBody s_sum_of) (defScope s_sum_of) [] [] f fd) (G_made : Fn P w K mg base CX0 2 "made" ["number", "parts"] [] sp_made) : FnOk P w K mg base CX0 3 f fd ["one", "other"] (upSp K sp_sum_of) := by
  refine fn_mk F sc_sum_of (fun ds M Q XE h => by
    obtain ⟨_, _, rfl, _⟩ := h; rfl) (fun cdv A outer s H E hr => ?_)
  have hu := hu_of hr
  have hu4 := hr.units
  have hu5 := units65 hr
  refine ⟨_, _, by
    exact (ss_one (s_ret (e_call G_made (hr.mono (by decide)) rfl (a_cons (e_op o_add (e_op o_mul (e_ix hu (ev 0) e_int) (e_ix hu (ev 1) e_int)) (e_op o_mul (e_ix hu (ev 1) e_int) (e_ix hu (ev 0) e_int))) (a_cons (e_op o_mul (e_ix hu (ev 0) e_int) (e_ix hu (ev 1) e_int)) a_nil))))), ?_⟩
  rintro ds M Q XE ⟨a, b, rfl, ha, hb, q⟩
  obtain ⟨h1, h2, h3, h4, h5, h6⟩ := bd_mul ha hb
  refine ⟨h1, h2, h3, _, _, rfl, h5, h6, _, SubM.refl _, ?_⟩
  rw [add_mk]
  exact q
abbrev N_times : List Str := ["one", "other"]
def sp_times : DSp := fun ds M Q _ => ∃ n p m q : Int, ds = [.tup [.i n, .i p], .tup [.i m, .i q]] ∧ 0 < p ∧ 0 < q ∧ n.natAbs < 2 ^ 4000 ∧ p.natAbs < 2 ^ 4000 ∧ m.natAbs < 2 ^ 4000 ∧ q.natAbs < 2 ^ 4000 ∧ Q (frD (mkRat (n * m) (p * q).toNat)) M
theorem sc_times : FnScope ["one", "other"] ["one", "other"] (defScope s_times) := ⟨rfl, rfl, rfl, by decide +kernel, rfl, by decide +kernel, by decide +kernel⟩
theorem ok_times  {f : Addr} {fd : FuncData} (F : FunD K "times" "times" (defArgs s_times) (defBody s_times) (defScope s_times) [] [] f fd) (G_made : Fn P w K mg base CX0 2 "made" ["number", "parts"] [] sp_made) : FnOk P w K mg base CX0 3 f fd ["one", "other"] (upSp K sp_times) := by
  refine fn_mk F sc_times (fun ds M Q XE h => by
    obtain ⟨_, _, _, _, rfl, _⟩ := h; rfl) (fun cdv A outer s H E hr => ?_)
  have hu := hu_of hr
  have hu4 := hr.units
  have hu5 := units65 hr
  refine ⟨_, _, by
    exact (ss_one (s_ret (e_call G_made (hr.mono (by decide)) rfl (a_cons (e_op o_mul (e_ix hu (ev 0) e_int) (e_ix hu (ev 1) e_int)) (a_cons (e_op o_mul (e_ix hu (ev 0) e_int) (e_ix hu (ev 1) e_int)) a_nil))))), ?_⟩
  rintro ds M Q XE ⟨n, p, m, q, rfl, hp, hq, h1, h2, h3, h4, k⟩
  have h1' : n.natAbs < 2 ^ (3999 + 1) := h1
  have h2' : p.natAbs < 2 ^ (3999 + 1) := h2
  have h3' : m.natAbs < 2 ^ (3999 + 1) := h3
  have h4' : q.natAbs < 2 ^ (3999 + 1) := h4
  refine ⟨mulW h1' h3' (by decide), mulW h2' h4' (by decide), _, _, rfl, Int.mul_pos hp hq, ?_, _, SubM.refl _, k⟩
  refine Nat.lt_of_lt_of_le (wide_lt h2' h4') ?_
  exact Nat.pow_le_pow_right (by decide) (by decide)
abbrev N_tank_with : List Str := ["tank", "holds", "rested", "later"]
def sp_tank_with (C : Addr) : DSp := fun ds M Q _ => ∃ (ware : Str) (low high start settle : Int) (h0 : List D) (r0 : D) (hs : List D) (rested : D), ds = [tankD C ware low high start settle h0 r0, .lst hs, rested] ∧ Q (tankD C ware low high start settle hs rested) M
theorem sc_tank_with : FnScope ["tank", "holds", "rested", "later"] ["tank", "holds", "rested"] (defScope s_tank_with) := ⟨rfl, rfl, rfl, by decide +kernel, rfl, by decide +kernel, by decide +kernel⟩
theorem ok_tank_with {C_Tank : Addr} {f : Addr} {fd : FuncData} (F : FunD K "tank_with" "tank_with" (defArgs s_tank_with) (defBody s_tank_with) (defScope s_tank_with) [] [] f fd) (G_Tank : Cl P w K mg base CX0 1 "Tank" C_Tank ["self", "ware", "low", "high", "start", "settle"] [] (sp_TankU_initU K C_Tank)) (g_list : mg "list" = none) (T_Tank : TC K C_Tank A_Tank) : FnOk P w K mg base CX0 3 f fd ["tank", "holds", "rested"] (upSp K (sp_tank_with C_Tank)) := by
  refine fn_mk F sc_tank_with (fun ds M Q XE h => by
    obtain ⟨_, _, _, _, _, _, _, _, _, rfl, _⟩ := h; rfl) (fun cdv A outer s H E hr => ?_)
  have hu := hu_of hr
  have hu4 := hr.units
  have hu5 := units65 hr
  refine ⟨_, _, by
    exact (ss_cons (s_set (i := 3) sc_tank_with.nd (e_make G_Tank (hr.mono (by decide)) rfl (a_cons (e_fld (ev 0)) (a_cons (e_fld (ev 0)) (a_cons (e_fld (ev 0)) (a_cons (e_fld (ev 0)) (a_cons (e_fld (ev 0)) a_nil)))))))
      (ss_cons (s_fld (ev 3) (e_callTy c_list g_list (a_cons (ev 1) a_nil)))
      (ss_cons (s_fld (ev 3) (ev 2))
      (ss_one (s_ret (efo 3)))))), ?_⟩
  rintro ds M Q XE ⟨ware, low, high, start, settle, h0, r0, hs, rested, rfl, q⟩
  refine ⟨0, _, T_Tank.fk 0, rfl, 1, _, T_Tank.fk 1, rfl, 2, _, T_Tank.fk 2, rfl, 3, _, T_Tank.fk 3, rfl, 4, _, T_Tank.fk 4, rfl, ?_⟩
  intro x hx
  refine ⟨x, ware, low, high, start, settle, rfl, updM_same, rfl, ?_⟩
  refine ⟨hs, rfl, C_Tank, _, _, updM_same, T_Tank.cl, T_Tank.na _ (by decide), by decide, .inr ⟨5, by decide, rfl, ?_⟩⟩
  refine ⟨C_Tank, _, _, updM_same, T_Tank.cl, T_Tank.na _ (by decide), by decide, .inr ⟨6, by decide, rfl, ?_⟩⟩
  refine ⟨_, _, _, updM_same, M, ?_, q⟩
  intro b c hb
  have ne : b ≠ x := by
    rintro rfl
    rw [hx] at hb
    cases hb
  rw [rmM_ne ne, updM_ne ne, updM_ne ne, updM_ne ne, updM_ne ne]
  exact hb
abbrev N_shares_together : List Str := ["one", "other", "sums", "ware", "volume"]
def sp_shares_together : DSp := fun ds M Q _ => ∃ l1 l2 : Am, ds = [shD l1, shD l2] ∧ SOk l1 ∧ SOk l2 ∧ NN l1 ∧ NN l2 ∧ l1.length + l2.length ≤ 1000 ∧ tot l1 + tot l2 < 2 ^ 100 ∧ ∀ l', JT l1 l2 l' → Q (shD l') M
theorem sc_shares_together : FnScope ["one", "other", "sums", "ware", "volume"] ["one", "other"] (defScope s_shares_together) := ⟨rfl, rfl, rfl, by decide +kernel, rfl, by decide +kernel, by decide +kernel⟩
theorem ok_shares_together  {f : Addr} {fd : FuncData} (F : FunD K "shares_together" "shares_together" (defArgs s_shares_together) (defBody s_shares_together) (defScope s_shares_together) [] [] f fd) (G_sum_of : Fn P w K mg base CX0 3 "sum_of" ["one", "other"] [] sp_sum_of) (g_sorted : mg "sorted" = none) : FnOk P w K mg base CX0 4 f fd ["one", "other"] (upSp K sp_shares_together) := by
  refine fn_mk F sc_shares_together (fun ds M Q XE h => by
    obtain ⟨_, _, rfl, _⟩ := h; rfl) (fun cdv A outer s H E hr => ?_)
  have hu := hu_of hr
  have hu4 := hr.units
  have hu5 := units65 hr
  refine ⟨_, _, by
    exact (ss_cons (s_set (i := 2) sc_shares_together.nd e_dctC)
      (ss_cons (s_for PassesOwn.never rfl (i_list (e_op o_add (ev 0) (ev 1))) (g_tup rfl (g_cons (g_name (i := 3) sc_shares_together.nd) (g_cons (g_name (i := 4) sc_shares_together.nd) g_nil)) (ng_cons (ng_cons ng_nil hits_name) hits_name)) (ss_one (s_sub hu (e_call G_sum_of (hr.mono (by decide)) rfl (a_cons (e_dget2 hu (ev 2) (ev 3) (e_tup (a_cons e_int (a_cons e_int a_nil)))) (a_cons (ev 4) a_nil))) (ev 2) (ev 3))))
      (ss_one (s_ret (e_callB (c_sorted hu4) g_sorted (a_cons (e_lcItems rfl sc_shares_together.nd (ev 2) (blkOk_by (own := [("ware", 3), ("volume", 4)]) (N := N_shares_together) (sc := defScope s_shares_together) (by decide +kernel)) (by exact fun _ _ _ _ _ => (g_tupK (K := K) rfl rfl (g_cons (g_name (i := 3) sc_shares_together.nd) (g_cons (g_name (i := 4) sc_shares_together.nd) g_nil)) (ng_cons (ng_cons ng_nil hits_name) hits_name))) (by exact fun _ _ _ _ _ => ts_one (b_cmp (o_gt) (e_ixK (K := K) rfl hu (ev 4) e_int) e_int)) (by exact fun _ _ _ _ _ => (e_tup (a_cons (ev 3) (a_cons (ev 4) a_nil))))) a_nil)))))), ?_⟩
  rintro ds M Q XE ⟨l1, l2, rfl, s1, s2, n1, n2, hlen, htot, q⟩
  intro p hp
  have hn := nn_append n1 n2
  rw [← tot_append] at htot
  refine ⟨l1.map shr, l2.map shr, rfl, rfl, by rw [List.length_map, List.length_map]; exact line_of hlen, ?_⟩
  rw [← List.map_append]
  refine loop_ind (f := shr) (fun r E M' => ∃ dn c x y, l1 ++ l2 = dn ++ r ∧ Col [] dn c ∧ E = [some (shD l1), some (shD l2), some (.r p), x, y] ∧ M' = updM M p (.dct (dk twD c))) ?_ ?_ (l1 ++ l2) _ _ ⟨[], [], _, _, rfl, Col.nil List.nodup_nil, rfl, rfl⟩
  · rintro z r N hN E M' ⟨dn, c, x, y, e, hc, rfl, rfl⟩
    have hz : z ∈ l1 ++ l2 := by rw [e]; exact List.mem_append_right _ List.mem_cons_self
    have hdn : NN dn := fun a ha => hn a (by rw [e]; exact List.mem_append_left _ ha)
    have hr : NN (z :: r) := fun a ha => hn a (by rw [e]; exact List.mem_append_right _ ha)
    have hcn : cnt c z.1 = cnt dn z.1 := by
      rw [hc.cnt]
      show 0 + _ = _
      omega
    have h0 : 0 ≤ cnt c z.1 := by rw [hcn]; exact cnt_nonneg hdn
    have h1 : cnt c z.1 < 2 ^ 100 := by
      have a := cnt_le_tot (u := z.1) hdn
      have b := tot_le_append (k := dn) hr
      rw [← e] at b
      omega
    have h2 : z.2 < 2 ^ 100 := by
      have := mem_le_tot hn hz
      omega
    have hl : c.length ≤ 1000 := by
      have a := hc.len
      have b := congrArg List.length e
      rw [List.length_append, List.length_append, List.length_cons] at b
      rw [List.length_nil] at a
      omega
    refine ⟨⟨_, updM_same⟩, _, .inr z.1, updM_same, rfl, tw (cnt c z.1), tw z.2, ?_, bd_cnt h0 h1, bd_cnt (hn z hz) h2, _, updM_same, .inr z.1, rfl, ?_, hN _ _ ⟨dn ++ [z], addN c z.1 z.2, _, _, by rw [e, List.append_assoc]; rfl, hc.snoc z, rfl, ?_⟩⟩
    · show [_, _] = _
      rw [twD_zero, dk_find twD z.1 hc.nd]
      rfl
    · show (dk twD c).length < sizeLine
      unfold dk
      rw [List.length_map]
      exact small1000 hl
    · show updM (updM M p _) p (.dct (putD (dk twD c) (.inr z.1) (frD (tw (cnt c z.1) + tw z.2)))) = _
      rw [updM_updM, tw_add]
      rw [show frD (tw (cnt c z.1 + z.2)) = twD (cnt c z.1 + z.2) from rfl, dk_put twD z.1 z.2 hc.nd]
  · rintro E M' ⟨dn, c, x, y, e, hc, rfl, rfl⟩
    rw [List.append_nil] at e
    subst e
    refine ⟨p, _, updM_same, rfl, ?_⟩
    rw [items_dk]
    have sc := col_sok hc (fun p hp => nomatch hp) (sok_append s1 s2)
    have hl : c.length ≤ 1000 := by
      have a := hc.len
      rw [List.length_append, List.length_nil] at a
      omega
    refine comp_pure (f := shr) (p := fun q => decide (0 < q.2)) (h := shr) c [] (fun z hz N1 N0 k1 k0 => ?_) (by rw [List.length_nil, Nat.zero_add]; exact line_of hl) ?_
    · show if decide (0 < (tw z.2).num) = true then _ else _
      rw [tw_num_pos]
      exact if_c k1 k0
    · obtain ⟨l', e1, e2⟩ := sorted_shr (posA c)
      refine ⟨(posA c).map shr, rfl, sort_shr fun a ha => sc a (List.mem_filter.mp ha).1, M, ?_, ?_⟩
      · rw [updM_rmM, updM_updM]
        exact subM_new hp
      · show Q (.lst (((posA c).map shr).mergeSort leD)) M
        rw [e1]
        exact q l' ⟨c, hc, e2⟩
abbrev N_volume_in : List Str := ["shares", "total", "ware", "volume"]
def sp_volume_in : DSp := fun ds M Q _ => ∃ l : Am, ds = [shD l] ∧ NN l ∧ tot l < 2 ^ 100 ∧ Q (twD (tot l)) M
theorem sc_volume_in : FnScope ["shares", "total", "ware", "volume"] ["shares"] (defScope s_volume_in) := ⟨rfl, rfl, rfl, by decide +kernel, rfl, by decide +kernel, by decide +kernel⟩
theorem ok_volume_in  {f : Addr} {fd : FuncData} (F : FunD K "volume_in" "volume_in" (defArgs s_volume_in) (defBody s_volume_in) (defScope s_volume_in) [] [] f fd) (G_sum_of : Fn P w K mg base CX0 3 "sum_of" ["one", "other"] [] sp_sum_of) : FnOk P w K mg base CX0 4 f fd ["shares"] (upSp K sp_volume_in) := by
  refine fn_mk F sc_volume_in (fun ds M Q XE h => by
    obtain ⟨_, rfl, _⟩ := h; rfl) (fun cdv A outer s H E hr => ?_)
  have hu := hu_of hr
  have hu4 := hr.units
  have hu5 := units65 hr
  refine ⟨_, _, by
    exact (ss_cons (s_set (i := 1) sc_volume_in.nd (e_tup (a_cons e_int (a_cons e_int a_nil))))
      (ss_cons (s_for PassesOwn.never rfl (i_list (ev 0)) (g_tup rfl (g_cons (g_name (i := 2) sc_volume_in.nd) (g_cons (g_name (i := 3) sc_volume_in.nd) g_nil)) (ng_cons (ng_cons ng_nil hits_name) hits_name)) (ss_one (s_set (i := 1) sc_volume_in.nd (e_call G_sum_of (hr.mono (by decide)) rfl (a_cons (ev 1) (a_cons (ev 3) a_nil))))))
      (ss_one (s_ret (ev 1))))), ?_⟩
  rintro ds M Q XE ⟨l, rfl, hn, ht, q⟩
  refine loop_ind (f := shr) (fun r E M' => ∃ dn x y, l = dn ++ r ∧ E = [some (shD l), some (twD (tot dn)), x, y] ∧ M' = M) ?_ ?_ l _ _ ⟨[], _, _, rfl, by
    show [_, some (D.tup [.i 0, .i 1]), _, _] = _
    rw [twD_zero]
    rfl, rfl⟩
  · rintro z r N hN E M' ⟨dn, x, y, e, rfl, rfl⟩
    have hz : z ∈ l := by rw [e]; exact List.mem_append_right _ List.mem_cons_self
    have hdn : NN dn := fun a ha => hn a (by rw [e]; exact List.mem_append_left _ ha)
    have hr : NN (z :: r) := fun a ha => hn a (by rw [e]; exact List.mem_append_right _ ha)
    have h1 : tot dn < 2 ^ 100 := by
      have b := tot_le_append (k := dn) hr
      rw [← e] at b
      omega
    have h2 : z.2 < 2 ^ 100 := by
      have := mem_le_tot hn hz
      omega
    refine ⟨tw (tot dn), tw z.2, rfl, bd_cnt (tot_nonneg hdn) h1, bd_cnt (hn z hz) h2, hN _ _ ⟨dn ++ [z], some (.s z.1), some (frD (tw z.2)), by rw [e, List.append_assoc]; rfl, ?_, rfl⟩⟩
    rw [tw_add]
    have e2 : tot (dn ++ [z]) = tot dn + z.2 := by
      rw [tot_append]
      show _ + (z.2 + 0) = _
      omega
    rw [e2]
    rfl
  · rintro E M' ⟨dn, x, y, e, rfl, rfl⟩
    rw [List.append_nil] at e
    subst e
    exact ⟨_, SubM.refl _, q⟩
abbrev N_may_blend : List Str := ["tank", "shares", "bounds", "holds", "total", "ware", "volume"]
def sp_may_blend (C : Addr) : DSp := fun ds M Q _ => ∃ (ware : Str) (low high start settle : Int) (l1 : Am) (rested : D) (l2 : Am) (b : Bn), ds = [tankD C ware low high start settle (l1.map shr) rested, shD l2, .lst (b.map bnD)] ∧ SOk l1 ∧ SOk l2 ∧ NN l1 ∧ NN l2 ∧ l1.length + l2.length ≤ 1000 ∧ tot l1 + tot l2 < 2 ^ 100 ∧ PyData.strOk ware = true ∧ BOk b ∧
  ∀ l', JT l1 l2 l' → Q (.b (fits ware b l')) M
theorem sc_may_blend : FnScope ["tank", "shares", "bounds", "holds", "total", "ware", "volume"] ["tank", "shares", "bounds"] (defScope s_may_blend) := ⟨rfl, rfl, rfl, by decide +kernel, rfl, by decide +kernel, by decide +kernel⟩
theorem ok_may_blend {C_Tank : Addr} {f : Addr} {fd : FuncData} (F : FunD K "may_blend" "may_blend" (defArgs s_may_blend) (defBody s_may_blend) (defScope s_may_blend) [] [] f fd) (G_shares_together : Fn P w K mg base CX0 4 "shares_together" ["one", "other"] [] sp_shares_together) (G_volume_in : Fn P w K mg base CX0 4 "volume_in" ["shares"] [] sp_volume_in) (G_below : Fn P w K mg base CX0 1 "below" ["one", "other"] [] sp_below) (G_times : Fn P w K mg base CX0 3 "times" ["one", "other"] [] sp_times) (G_part_allowed : Fn P w K mg base CX0 1 "part_allowed" ["bounds", "ware", "other"] [] sp_part_allowed) (T_Tank : TC K C_Tank A_Tank) : FnOk P w K mg base CX0 5 f fd ["tank", "shares", "bounds"] (upSp K (sp_may_blend C_Tank)) := by
  refine fn_mk F sc_may_blend (fun ds M Q XE h => by
    obtain ⟨_, _, _, _, _, _, _, _, _, rfl, _⟩ := h; rfl) (fun cdv A outer s H E hr => ?_)
  have hu := hu_of hr
  have hu4 := hr.units
  have hu5 := units65 hr
  refine ⟨_, _, by
    exact (ss_cons (s_set (i := 3) sc_may_blend.nd (e_call G_shares_together (hr.mono (by decide)) rfl (a_cons (e_fld (ev 0)) (a_cons (ev 1) a_nil))))
      (ss_cons (s_set (i := 4) sc_may_blend.nd (e_call G_volume_in (hr.mono (by decide)) rfl (a_cons (ev 3) a_nil)))
      (ss_cons (s_for PassesOwn.never rfl (i_list (ev 3)) (g_tup rfl (g_cons (g_name (i := 5) sc_may_blend.nd) (g_cons (g_name (i := 6) sc_may_blend.nd) g_nil)) (ng_cons (ng_cons ng_nil hits_name) hits_name)) (ss_one (s_if (b_w (bw_and (b_cmp (o_ne hu4) (ev 5) (e_fld (ev 0))) (bw_and1 (b_val (e_call G_below (hr.mono (by decide)) rfl (a_cons (e_call G_times (hr.mono (by decide)) rfl (a_cons (ev 4) (a_cons (e_call G_part_allowed (hr.mono (by decide)) rfl (a_cons (ev 2) (a_cons (e_fld (ev 0)) (a_cons (ev 5) a_nil)))) a_nil))) (a_cons (ev 6) a_nil))))))) (ss_one (s_ret e_bl)) ss_nil)))
      (ss_one (s_ret e_bl))))), ?_⟩
  rintro ds M Q XE ⟨ware, low, high, start, settle, l1, rested, l2, b, rfl, s1, s2, n1, n2, hlen, htot, hw, hb, q⟩
  refine ⟨5, _, T_Tank.fk 5, rfl, l1, l2, rfl, s1, s2, n1, n2, hlen, htot, fun l' j => ?_⟩
  have jn := j.jn s1 s2 n1 n2
  have nn : NN l' := fun p hp => Int.le_of_lt (jn.pos p hp)
  have ht : tot l' < 2 ^ 100 := by rw [jn.tot]; exact htot
  refine ⟨l', rfl, nn, ht, ?_⟩
  have q := q l' j
  unfold fits at q
  generalize hP : (fun p : Str × Int => decide (p.1 = ware) || !decide (tot l' * (partOf b ware p.1).1 < p.2 * (partOf b ware p.1).2)) = P at q
  refine loop_ind (f := shr) (fun r E M' => ∃ x y, l'.all P = r.all P ∧ (∀ p ∈ r, p ∈ l') ∧ E = [some (tankD C_Tank ware low high start settle (l1.map shr) rested), some (shD l2), some (.lst (b.map bnD)), some (shD l'), some (twD (tot l')), x, y] ∧ M' = M) ?_ ?_ l' _ _ ⟨_, _, rfl, fun _ h => h, rfl, rfl⟩
  · rintro z r N hN E M' ⟨x, y, e, hm, rfl, rfl⟩
    have hz := hm z List.mem_cons_self
    have hPz : P z = (decide (z.1 = ware) || !decide (tot l' * (partOf b ware z.1).1 < z.2 * (partOf b ware z.1).2)) := by rw [← hP]
    have next : P z = true → N [some (tankD C_Tank ware low high start settle (l1.map shr) rested), some (shD l2), some (.lst (b.map bnD)), some (shD l'), some (twD (tot l')), some (.s z.1), some (frD (tw z.2))] M' := fun hp => hN _ _ ⟨_, _, by rw [e, List.all_cons, hp, Bool.true_and], fun p hp => hm p (List.mem_cons_of_mem _ hp), rfl, rfl⟩
    refine ⟨0, _, T_Tank.fk 0, rfl, rfl, ?_⟩
    show if (!decide (V.str z.1 = V.str ware)) = true then _ else _
    rw [dstr]
    refine if_nd (fun h => ?_) (fun h => ?_)
    · rw [decide_eq_false h, Bool.false_or] at hPz
      refine ⟨0, _, T_Tank.fk 0, rfl, b, ware, z.1, rfl, hw, jn.sok z hz, hb, ?_⟩
      obtain ⟨p1, p2, p3, p4⟩ := partOf_ok (w := ware) (o := z.1) hb
      have hbt := bd_cnt (tot_nonneg nn) ht
      have hd := den_pos (tw (tot l'))
      have small : ∀ i : Int, 0 ≤ i → i ≤ 1000 → i.natAbs < 2 ^ 4000 := fun i a c => Nat.lt_of_lt_of_le (by omega : i.natAbs < 2 ^ 10) (Nat.pow_le_pow_right (by decide) (by decide))
      refine ⟨_, _, _, _, rfl, by omega, p3, hbt.1, by rw [natAbs_den]; exact hbt.2, small _ p1 (by omega), small _ (by omega) p4, ?_⟩
      have hq : (((tw (tot l')).den : Int) * (partOf b ware z.1).2).toNat = (tw (tot l')).den * (partOf b ware z.1).2.toNat := by
        have h1 : ((tw (tot l')).den : Int) * (partOf b ware z.1).2 = (((tw (tot l')).den * (partOf b ware z.1).2.toNat : Nat) : Int) := by
          rw [Int.natCast_mul, Int.toNat_of_nonneg (by omega)]
        rw [h1, Int.toNat_natCast]
      have hb2 := bd_tw (k := 96) (a := tot l') (by have := tot_nonneg nn; omega)
      have sm : ∀ {x y : Nat}, x < 2 ^ 100 → y < 2 ^ 10 → x * y < 2 ^ 4000 := fun {x y} a c => by
        have h1 : x * y ≤ 2 ^ 100 * 2 ^ 10 := Nat.mul_le_mul (Nat.le_of_lt a) (Nat.le_of_lt c)
        rw [← Nat.pow_add] at h1
        exact Nat.lt_of_le_of_lt h1 (Nat.pow_lt_pow_right (by decide) (by decide))
      refine ⟨_, tw z.2, rfl, ?_, bd_cnt (nn z hz) (by have := mem_le_tot nn hz; omega), ?_⟩
      · rw [hq]
        refine bd_mk (Nat.mul_pos hd (by omega)) ?_ (sm hb2.2 (by omega))
        rw [Int.natAbs_mul]
        exact sm hb2.1 (by omega)
      show if decide _ = true then _ else _
      rw [tw_below p3]
      refine if_d (fun h => ?_) (fun h => ?_)
      · refine ⟨_, SubM.refl _, ?_⟩
        rw [decide_eq_true h] at hPz
        rw [e, List.all_cons, hPz] at q
        exact q
      · rw [decide_eq_false h] at hPz
        exact next hPz
    · rw [decide_eq_true h, Bool.true_or] at hPz
      exact if_f rfl (next hPz)
  · rintro E M' ⟨x, y, e, _, rfl, rfl⟩
    refine ⟨_, SubM.refl _, ?_⟩
    rw [e] at q
    exact q
abbrev N_put_in : List Str := ["tank", "shares", "hour"]
def sp_put_in (C : Addr) : DSp := fun ds M Q _ => ∃ (ware : Str) (low high start settle : Int) (l1 : Am) (r0 : D) (l2 : Am) (hour : D), ds = [tankD C ware low high start settle (l1.map shr) r0, shD l2, hour] ∧ SOk l1 ∧ SOk l2 ∧ NN l1 ∧ NN l2 ∧ l1.length + l2.length ≤ 1000 ∧ tot l1 + tot l2 < 2 ^ 100 ∧
  ∀ l', JT l1 l2 l' → Q (tankD C ware low high start settle (l'.map shr) hour) M
theorem sc_put_in : FnScope ["tank", "shares", "hour"] ["tank", "shares", "hour"] (defScope s_put_in) := ⟨rfl, rfl, rfl, by decide +kernel, rfl, by decide +kernel, by decide +kernel⟩
theorem ok_put_in {C_Tank : Addr} {f : Addr} {fd : FuncData} (F : FunD K "put_in" "put_in" (defArgs s_put_in) (defBody s_put_in) (defScope s_put_in) [] [] f fd) (G_tank_with : Fn P w K mg base CX0 3 "tank_with" ["tank", "holds", "rested"] [] (sp_tank_with C_Tank)) (G_shares_together : Fn P w K mg base CX0 4 "shares_together" ["one", "other"] [] sp_shares_together) (T_Tank : TC K C_Tank A_Tank) : FnOk P w K mg base CX0 5 f fd ["tank", "shares", "hour"] (upSp K (sp_put_in C_Tank)) := by
  refine fn_mk F sc_put_in (fun ds M Q XE h => by
    obtain ⟨_, _, _, _, _, _, _, _, _, rfl, _⟩ := h; rfl) (fun cdv A outer s H E hr => ?_)
  have hu := hu_of hr
  have hu4 := hr.units
  have hu5 := units65 hr
  refine ⟨_, _, by
    exact (ss_one (s_ret (e_call G_tank_with (hr.mono (by decide)) rfl (a_cons (ev 0) (a_cons (e_call G_shares_together (hr.mono (by decide)) rfl (a_cons (e_fld (ev 0)) (a_cons (ev 1) a_nil))) (a_cons (ev 2) a_nil)))))), ?_⟩
  rintro ds M Q XE ⟨ware, low, high, start, settle, l1, r0, l2, hour, rfl, s1, s2, n1, n2, hlen, htot, q⟩
  exact ⟨5, _, T_Tank.fk 5, rfl, l1, l2, rfl, s1, s2, n1, n2, hlen, htot, fun l' j => ⟨ware, low, high, start, settle, _, r0, _, hour, rfl, _, SubM.refl _, q l' j⟩⟩
abbrev N_law_round : List Str := ["_law_script", "_law_k", "_law_wares_here", "_law_cell", "_law_one", "_law_bounds_here", "_law_ware", "_law_start", "_law_j", "_law_name", "_law_first", "_law_more", "_law_edge_here", "_law_twelfths", "_law_many", "_law_tank", "_law_shares", "_law_handed", "_law_found"]
def sp_law_round : DSp := fun ds M Q _ => ∃ (xs : List Int) (k : Int) (ws : List Str), ds = [.ro (intsD xs), .i k, .lst (ws.map .s)] ∧ ws.length = 6 ∧ WOk ws ∧ 0 ≤ k ∧ k ≤ 100 ∧ Q (.b true) M
theorem sc_law_round : FnScope ["_law_script", "_law_k", "_law_wares_here", "_law_cell", "_law_one", "_law_bounds_here", "_law_ware", "_law_start", "_law_j", "_law_name", "_law_first", "_law_more", "_law_edge_here", "_law_twelfths", "_law_many", "_law_tank", "_law_shares", "_law_handed", "_law_found"] ["_law_script", "_law_k", "_law_wares_here"] (defScope s_law_round) := ⟨rfl, rfl, rfl, by decide +kernel, rfl, by decide +kernel, by decide +kernel⟩
theorem ok_law_round {C_Tank : Addr} {f : Addr} {fd : FuncData} (F : FunD K "_law_round" "_law_round" (defArgs s_law_round) (defBody s_law_round) (defScope s_law_round) [] [] f fd) (G_law_at : Fn P w K mg base CX0 1 "_law_at" ["_law_script", "_law_k"] [] sp_law_at) (G_law_mix : Fn P w K mg base CX0 1 "_law_mix" ["_law_cell", "_law_k"] [] sp_law_mix) (G_law_bounds : Fn P w K mg base CX0 2 "_law_bounds" ["_law_cell", "_law_wares_here"] [] sp_law_bounds) (g_enumerate : mg "enumerate" = none) (G_law_edge : Fn P w K mg base CX0 1 "_law_edge" ["_law_bounds_here", "_law_ware", "_law_one"] [] sp_law_edge) (G_put_in : Fn P w K mg base CX0 5 "put_in" ["tank", "shares", "hour"] [] (sp_put_in C_Tank)) (G_law_put : Fn P w K mg base CX0 2 "_law_put" ["_law_amounts"] [] sp_law_put) (G_Tank : Cl P w K mg base CX0 1 "Tank" C_Tank ["self", "ware", "low", "high", "start", "settle"] [] (sp_TankU_initU K C_Tank)) (g_list : mg "list" = none) (G_may_blend : Fn P w K mg base CX0 5 "may_blend" ["tank", "shares", "bounds"] [] (sp_may_blend C_Tank)) (G_law_right : Fn P w K mg base CX0 1 "_law_right" ["_law_ware", "_law_twelfths", "_law_bounds_here"] [] sp_law_right) (g_isinstance : mg "isinstance" = none) (g_bool : mg "bool" = none) (T_Tank : TC K C_Tank A_Tank) : FnOk P w K mg base CX0 6 f fd ["_law_script", "_law_k", "_law_wares_here"] (upSp K sp_law_round) := by
  refine fn_mk F sc_law_round (fun ds M Q XE h => by
    obtain ⟨_, _, _, rfl, _⟩ := h; rfl) (fun cdv A outer s H E hr => ?_)
  have hu := hu_of hr
  have hu4 := hr.units
  have hu5 := units65 hr
  refine ⟨_, _, by
    exact (ss_cons (s_set (i := 3) sc_law_round.nd (e_call G_law_at (hr.mono (by decide)) rfl (a_cons (ev 0) (a_cons (e_op o_add (ev 1) e_int) a_nil))))
      (ss_cons (s_set (i := 4) sc_law_round.nd (e_call G_law_mix (hr.mono (by decide)) rfl (a_cons (ev 3) (a_cons (e_op o_add e_int (ev 1)) a_nil))))
      (ss_cons (s_set (i := 5) sc_law_round.nd (e_call G_law_bounds (hr.mono (by decide)) rfl (a_cons (ev 3) (a_cons (ev 2) a_nil))))
      (ss_cons (s_set (i := 6) sc_law_round.nd (e_ix hu (ev 2) (e_op o_mod (ev 4) e_int)))
      (ss_cons (s_set (i := 7) sc_law_round.nd (e_op o_mul (e_op o_mod (e_op o_div (ev 4) e_int) e_int) (e_op o_mod (e_op o_div (ev 4) e_int) e_int)))
      (ss_cons (s_setLc (i := 10) rfl sc_law_round.nd rfl (sw_true rfl rfl rfl (by decide +kernel)) (i_enum g_enumerate (a_cons (e_slice (ev 2) p_none (p_some (e_op o_add e_int (e_op o_mod (e_op o_div (ev 4) e_int) e_int)))) a_nil)) (blkOk_by (own := [("_law_j", 8), ("_law_name", 9)]) (N := N_law_round) (sc := defScope s_law_round) (by decide +kernel)) (by exact fun _ _ _ _ _ => (g_tupK (K := K) rfl rfl (g_cons (g_name (i := 8) sc_law_round.nd) (g_cons (g_name (i := 9) sc_law_round.nd) g_nil)) (ng_cons (ng_cons ng_nil hits_name) hits_name))) (by exact fun _ _ _ _ _ => ts_nil) (by exact fun _ _ _ _ _ => (e_tup (a_cons (ev 9) (a_cons (e_op o_mul e_int (e_op o_mod (e_callK (K := K) rfl G_law_mix (hr.mono (by decide)) rfl (a_cons (ev 3) (a_cons (e_op (o_addK (K := K) rfl) e_int (ev 8)) a_nil))) e_int)) a_nil)))))
      (ss_cons (s_setLc (i := 11) rfl sc_law_round.nd rfl (sw_true rfl rfl rfl (by decide +kernel)) (i_enum g_enumerate (a_cons (e_slice (ev 2) (p_some (e_op o_mod (e_op o_div (ev 4) e_int) e_int)) p_none) a_nil)) (blkOk_by (own := [("_law_j", 8), ("_law_name", 9)]) (N := N_law_round) (sc := defScope s_law_round) (by decide +kernel)) (by exact fun _ _ _ _ _ => (g_tupK (K := K) rfl rfl (g_cons (g_name (i := 8) sc_law_round.nd) (g_cons (g_name (i := 9) sc_law_round.nd) g_nil)) (ng_cons (ng_cons ng_nil hits_name) hits_name))) (by exact fun _ _ _ _ _ => ts_nil) (by exact fun _ _ _ _ _ => (e_tup (a_cons (ev 9) (a_cons (e_op o_mod (e_callK (K := K) rfl G_law_mix (hr.mono (by decide)) rfl (a_cons (ev 3) (a_cons (e_op (o_addK (K := K) rfl) e_int (ev 8)) a_nil))) (e_ixK (K := K) rfl hu (e_lst (a_cons e_int (a_cons e_int a_nil))) (e_op o_mod (e_op o_div (ev 4) e_int) e_int))) a_nil)))))
      (ss_cons (s_set (i := 12) sc_law_round.nd (e_call G_law_edge (hr.mono (by decide)) rfl (a_cons (ev 5) (a_cons (ev 6) (a_cons (e_op o_div (ev 4) e_int) a_nil)))))
      (ss_cons (s_if (b_w (bw_and (b_cmp (o_notN) (ev 12) e_non) (bw_and1 (b_cmp (o_eq hu4) (e_op o_mod (e_op o_div (ev 4) e_int) e_int) e_int)))) (ss_cons (s_set (i := 7) sc_law_round.nd e_int)
      (ss_cons (s_set (i := 10) sc_law_round.nd (e_slice (ev 12) p_none (p_some e_int)))
      (ss_one (s_set (i := 11) sc_law_round.nd (e_slice (ev 12) (p_some e_int) p_none))))) ss_nil)
      (ss_cons (s_set (i := 13) sc_law_round.nd (e_dct (d_cons (ev 6) (e_op o_mul e_int (ev 7)) d_nil)))
      (ss_cons (s_for PassesOwn.never rfl (i_list (e_op o_add (ev 10) (ev 11))) (g_tup rfl (g_cons (g_name (i := 9) sc_law_round.nd) (g_cons (g_name (i := 14) sc_law_round.nd) g_nil)) (ng_cons (ng_cons ng_nil hits_name) hits_name)) (ss_one (s_sub hu (e_op o_add (e_dget2 hu (ev 13) (ev 9) e_int) (ev 14)) (ev 13) (ev 9))))
      (ss_cons (s_set (i := 15) sc_law_round.nd (e_call G_put_in (hr.mono (by decide)) rfl (a_cons (e_frz (e_make G_Tank (hr.mono (by decide)) rfl (a_cons (ev 6) (a_cons e_int (a_cons (e_op o_pow e_int e_int) (a_cons (ev 7) (a_cons e_int a_nil))))))) (a_cons (e_call G_law_put (hr.mono (by decide)) rfl (a_cons (ev 10) a_nil)) (a_cons (e_tup (a_cons e_int (a_cons e_int a_nil))) a_nil)))))
      (ss_cons (s_set (i := 16) sc_law_round.nd (e_call G_law_put (hr.mono (by decide)) rfl (a_cons (ev 11) a_nil)))
      (ss_cons (s_set (i := 17) sc_law_round.nd (e_lst (a_cons (e_callTy c_list g_list (a_cons (e_fld (ev 15)) a_nil)) (a_cons (e_callTy c_list g_list (a_cons (ev 16) a_nil)) (a_cons (e_callTy c_list g_list (a_cons (ev 5) a_nil)) a_nil)))))
      (ss_cons (s_set (i := 18) sc_law_round.nd (e_call G_may_blend (hr.mono (by decide)) rfl (a_cons (ev 15) (a_cons (ev 16) (a_cons (ev 5) a_nil)))))
      (ss_cons (s_if (b_w (bw_or (b_not (b_val (e_isiT1 .bool g_isinstance g_bool (ev 18)))) (bw_or1 (b_cmp (o_ne hu4) (ev 18) (e_call G_law_right (hr.mono (by decide)) rfl (a_cons (ev 6) (a_cons (ev 13) (a_cons (ev 5) a_nil)))))))) (ss_one (s_ret e_bl)) ss_nil)
      (ss_one (s_ret (e_cmp (o_eq hu4) (ev 17) (e_lst (a_cons (e_fld (ev 15)) (a_cons (ev 16) (a_cons (ev 5) a_nil))))))))))))))))))))))), ?_⟩
  rintro ds M Q XE ⟨xs, k, ws, rfl, hl, hw, hk0, hk1, q⟩
  refine ⟨xs, k + 1, rfl, by omega, fun c => ?_⟩
  refine ⟨c, 730 + k, rfl, by omega, by omega, ?_⟩
  have n0 := mixI_nonneg c (730 + k)
  have n1 := mixI_lt c (730 + k)
  obtain ⟨one, hone⟩ : ∃ s, s = mixI c (730 + k) := ⟨_, rfl⟩
  rw [← hone] at n0 n1 ⊢
  refine ⟨c, ws, rfl, hl, hw, fun b hb hbl => ?_⟩
  obtain ⟨i1, i2⟩ := emodT one (b := 6) (by decide)
  obtain ⟨ware, hwa, hwm⟩ := seqW (ws := ws) (i := one % 6) i1 (by omega)
  have hwo := hw ware hwm
  obtain ⟨a1, a2⟩ := emodT (one / 6) (b := 3) (by decide)
  obtain ⟨a3, a4⟩ := emodT (one / 18) (b := 40) (by decide)
  refine ⟨(show (0 : Int) < 6 by decide), _, hwa, divS (by decide) (by decide), (show (0 : Int) < 3 by decide), divS (by decide) (by decide), (show (0 : Int) < 40 by decide), mulT ⟨by omega, by omega⟩ ⟨by omega, by omega⟩, ?_⟩
  have s0 : 0 ≤ one / 6 % 3 * (one / 18 % 40) := Int.mul_nonneg a1 a3
  have s1 : one / 6 % 3 * (one / 18 % 40) ≤ 3 * 40 := Int.mul_le_mul (by omega) (by omega) a3 (by decide)
  refine ⟨divS (by decide) (by decide), (show (0 : Int) < 4 by decide), ws.map .s, rfl, ?_⟩
  obtain ⟨u1, hu1, hm1, hl1⟩ := cut_map D.s ws none (some (1 + one / 720 % 4))
  rw [hu1]
  conv => whnf
  rw [enum_s]
  have small : ∀ {x : Int}, 0 ≤ x → x < 1000000 → x < 1000000 := fun _ h => h
  refine comp_pure (f := fun p : Nat × Str => D.tup [.i (p.1 : Nat), .s p.2]) (p := fun _ => true) (h := fun p => am (p.2, 12 * (mixI c (740 + (p.1 : Nat)) % 9))) _ [] (fun p hp N1 N0 k1 k0 => ?_) (by rw [List.length_nil, Nat.zero_add, List.length_mapIdx]; exact line_of (by omega)) ?_
  · have hp1 := (mem_idx hp).1
    obtain ⟨e1, e2⟩ := emodT (mixI c (740 + (p.1 : Nat))) (b := 9) (by decide)
    exact ⟨c, 740 + (p.1 : Nat), rfl, by omega, by omega, (show (0 : Int) < 9 by decide), mulT (by decide) ⟨by omega, by omega⟩, k1 rfl⟩
  obtain ⟨F0, hF0⟩ : ∃ F : Am, F = (u1.mapIdx fun i w => (i, w)).map fun p => (p.2, 12 * (mixI c (740 + (p.1 : Nat)) % 9)) := ⟨_, rfl⟩
  have eF : [] ++ ((u1.mapIdx fun i w => (i, w)).filter fun _ => true).map (fun p => am (p.2, 12 * (mixI c (740 + (p.1 : Nat)) % 9))) = F0.map am := by
    rw [hF0, List.nil_append, filter_yes, List.map_map]
    rfl
  have fF : ∀ p ∈ F0, PyData.strOk p.1 = true ∧ 0 ≤ p.2 ∧ p.2 ≤ 1000000 := fun p hp => by
    rw [hF0] at hp
    obtain ⟨x, hx, rfl⟩ := List.mem_map.mp hp
    obtain ⟨e1, e2⟩ := emodT (mixI c (740 + (x.1 : Nat))) (b := 9) (by decide)
    exact ⟨hw _ (hm1 _ (mem_idx hx).2), by show 0 ≤ 12 * _; omega, by show 12 * _ ≤ (1000000 : Int); omega⟩
  have lF : F0.length ≤ 6 := by
    rw [hF0, List.length_map, List.length_mapIdx]
    omega
  rw [eF]
  clear eF hF0
  obtain ⟨g1, g2⟩ := emodT (one / 13) (b := 4) (by decide)
  refine ⟨divS (by decide) (by decide), (show (0 : Int) < 4 by decide), ws.map .s, rfl, ?_⟩
  obtain ⟨u2, hu2, hm2, hl2⟩ := cut_map D.s ws (some (one / 13 % 4)) none
  rw [hu2]
  conv => whnf
  rw [enum_s]
  obtain ⟨mm, hmm, mm0, mm1⟩ : ∃ mm : Int, seqAt [D.i 30, D.i 600] (one / 11 % 2) = some (.i mm) ∧ 0 < mm ∧ mm ≤ 600 := by
    obtain ⟨b1, b2⟩ := emodT (one / 11) (b := 2) (by decide)
    have h3 : one / 11 % 2 = 0 ∨ one / 11 % 2 = 1 := by omega
    rcases h3 with h3 | h3 <;> rw [h3]
    · exact ⟨_, rfl, by omega, by omega⟩
    · exact ⟨_, rfl, by omega, by omega⟩
  refine comp_pure (f := fun p : Nat × Str => D.tup [.i (p.1 : Nat), .s p.2]) (p := fun _ => true) (h := fun p => am (p.2, mixI c (750 + (p.1 : Nat)) % mm)) _ [] (fun p hp N1 N0 k1 k0 => ?_) (by rw [List.length_nil, Nat.zero_add, List.length_mapIdx]; exact line_of (by omega)) ?_
  · have hp1 := (mem_idx hp).1
    exact ⟨c, 750 + (p.1 : Nat), rfl, by omega, by omega, divS (by decide) (by decide), (show (0 : Int) < 2 by decide), _, hmm, mm0, k1 rfl⟩
  obtain ⟨G0, hG0⟩ : ∃ F : Am, F = (u2.mapIdx fun i w => (i, w)).map fun p => (p.2, mixI c (750 + (p.1 : Nat)) % mm) := ⟨_, rfl⟩
  have eG : [] ++ ((u2.mapIdx fun i w => (i, w)).filter fun _ => true).map (fun p => am (p.2, mixI c (750 + (p.1 : Nat)) % mm)) = G0.map am := by
    rw [hG0, List.nil_append, filter_yes, List.map_map]
    rfl
  have fG : ∀ p ∈ G0, PyData.strOk p.1 = true ∧ 0 ≤ p.2 ∧ p.2 ≤ 1000000 := fun p hp => by
    rw [hG0] at hp
    obtain ⟨x, hx, rfl⟩ := List.mem_map.mp hp
    obtain ⟨e1, e2⟩ := emodT (mixI c (750 + (x.1 : Nat))) (b := mm) mm0
    exact ⟨hw _ (hm2 _ (mem_idx hx).2), e1, by show mixI c _ % mm ≤ 1000000; omega⟩
  have lG : G0.length ≤ 6 := by
    rw [hG0, List.length_map, List.length_mapIdx]
    omega
  rw [eG]
  clear eG hG0
  dsimp only
  refine seq_via (fun E M' => ∃ d, (d = D.n ∨ ∃ w x y, d = .lst [am (ware, x), am (w, y)] ∧ PyData.strOk w = true ∧ 0 ≤ x ∧ x ≤ 1000000 ∧ 0 ≤ y ∧ y ≤ 1000000) ∧ E = [some (.ro (intsD xs)), some (.i k), some (.lst (ws.map .s)), some (.i c), some (.i one), some (.lst (b.map bnD)), some (.s ware), some (.i (one / 6 % 3 * (one / 18 % 40))), none, none, some (.lst (F0.map am)), some (.lst (G0.map am)), some d, none, none, none, none, none, none] ∧ M' = M) (fun N hN => ?_) ?_
  · refine ⟨divS (by decide) (by decide), b, ware, one / 17, rfl, ediv0 n0 (by decide), hwo, hb, hbl, ?_, fun w x y h1 h2 h3 h4 h5 => ?_⟩
    · exact hN _ _ ⟨_, .inl rfl, rfl, rfl⟩
    · exact hN _ _ ⟨_, .inr ⟨w, x, y, rfl, h1, h2, h3, h4, h5⟩, rfl, rfl⟩
  rintro E M' ⟨d, hd, rfl, rfl⟩
  refine seq_via (fun E M'' => ∃ (start : Int) (F G : Am), 0 ≤ start ∧ start ≤ 120 ∧ (∀ p ∈ F, PyData.strOk p.1 = true ∧ 0 ≤ p.2 ∧ p.2 ≤ 1000000) ∧ (∀ p ∈ G, PyData.strOk p.1 = true ∧ 0 ≤ p.2 ∧ p.2 ≤ 1000000) ∧ F.length ≤ 6 ∧ G.length ≤ 6 ∧ E = [some (.ro (intsD xs)), some (.i k), some (.lst (ws.map .s)), some (.i c), some (.i one), some (.lst (b.map bnD)), some (.s ware), some (.i start), none, none, some (.lst (F.map am)), some (.lst (G.map am)), some d, none, none, none, none, none, none] ∧ M'' = M') (fun N hN => ?_) ?_
  · have skip : N [some (.ro (intsD xs)), some (.i k), some (.lst (ws.map .s)), some (.i c), some (.i one), some (.lst (b.map bnD)), some (.s ware), some (.i (one / 6 % 3 * (one / 18 % 40))), none, none, some (.lst (F0.map am)), some (.lst (G0.map am)), some d, none, none, none, none, none, none] M' := hN _ _ ⟨(one / 6 % 3 * (one / 18 % 40)), F0, G0, s0, by omega, fF, fG, lF, lG, rfl, rfl⟩
    rcases hd with rfl | ⟨w, x, y, rfl, h1, h2, h3, h4, h5⟩
    · exact skip
    · refine ⟨divS (by decide) (by decide), (show (0 : Int) < 2 by decide), rfl, ?_⟩
      refine if_c (fun h => ?_) (fun h => skip)
      refine ⟨_, rfl, _, rfl, ?_⟩
      refine hN _ _ ⟨0, [(ware, x)], [(w, y)], by decide, by decide, ?_, ?_, Nat.le_of_ble_eq_true rfl, Nat.le_of_ble_eq_true rfl, rfl, rfl⟩
      · intro p hp
        cases List.mem_singleton.mp hp
        exact ⟨hwo, h2, h3⟩
      · intro p hp
        cases List.mem_singleton.mp hp
        exact ⟨h1, h4, h5⟩
  rintro E M'' ⟨start, F, G, st0, st1, fF, fG, lF, lG, rfl, rfl⟩
  have sF : SOk F := fun p hp => (fF p hp).1
  have sG : SOk G := fun p hp => (fG p hp).1
  have nF : NN F := fun p hp => (fF p hp).2.1
  have nG : NN G := fun p hp => (fG p hp).2.1
  have tF : tot F ≤ 6000000 := by
    have h := tot_le_len (B := 1000000) (by decide) (fun p hp => (fF p hp).2.2)
    omega
  have tG : tot G ≤ 6000000 := by
    have h := tot_le_len (B := 1000000) (by decide) (fun p hp => (fG p hp).2.2)
    omega
  intro p hp
  refine ⟨mulT (by decide) ⟨by omega, by omega⟩, .inr ware, rfl, updM_same, Nat.le_of_ble_eq_true rfl, ?_⟩
  refine ⟨F.map am, G.map am, rfl, rfl, by rw [List.length_map, List.length_map]; exact line_of (by omega), ?_⟩
  rw [← List.map_append]
  refine loop_ind (f := am) (fun r E M' => ∃ dn T x9 x14, F ++ G = dn ++ r ∧ Col [(ware, 12 * start)] dn T ∧ E = [some (.ro (intsD xs)), some (.i k), some (.lst (ws.map .s)), some (.i c), some (.i one), some (.lst (b.map bnD)), some (.s ware), some (.i start), none, x9, some (.lst (F.map am)), some (.lst (G.map am)), some d, some (.r p), x14, none, none, none, none] ∧ M' = updM M'' p (.dct (dk .i T))) ?_ ?_ (F ++ G) _ _ ⟨[], [(ware, 12 * start)], none, none, rfl, Col.nil (List.nodup_cons.mpr ⟨(fun z => nomatch z), List.nodup_nil⟩), rfl, by rw [updM_updM]; rfl⟩
  · rintro z r N hN E M' ⟨dn, T, x9, x14, e, hc, rfl, rfl⟩
    have hl : T.length ≤ 1000 := by
      have a := hc.len
      have e3 := congrArg List.length e
      rw [List.length_append, List.length_append, List.length_cons] at e3
      rw [List.length_singleton] at a
      omega
    refine ⟨⟨_, updM_same⟩, _, .inr z.1, updM_same, rfl, ?_⟩
    have hf := dk_find D.i z.1 hc.nd
    rw [hf]
    refine ⟨_, updM_same, .inr z.1, rfl, ?_, hN _ _ ⟨dn ++ [z], addN T z.1 z.2, _, _, by rw [e, List.append_assoc]; rfl, hc.snoc z, rfl, ?_⟩⟩
    · show (dk D.i T).length < sizeLine
      unfold dk
      rw [List.length_map]
      exact small1000 hl
    · show updM (updM M'' p _) p (.dct (putD (dk D.i T) (.inr z.1) (D.i (cnt T z.1 + z.2)))) = _
      rw [updM_updM, dk_put D.i z.1 z.2 hc.nd]
  rintro E M' ⟨dn, T, x9, x14, e, hc, rfl, rfl⟩
  rw [List.append_nil] at e
  subst e
  have hsub : SubM M'' (updM M'' p (.dct (dk .i T))) := subM_new hp
  have hMp : updM M'' p (.dct (dk .i T)) p = some (.dct (dk .i T)) := updM_same
  generalize updM M'' p (.dct (dk .i T)) = M1 at hsub hMp ⊢
  refine ⟨⟨by decide, by decide, by decide⟩, ?_⟩
  intro x hx
  refine ⟨x, ware, 0, 10 ^ 6, start, 0, rfl, updM_same, rfl, ?_⟩
  refine ⟨_, updM_same, ?_⟩
  have hsub2 : SubM M'' (rmM (updM (updM M1 x (.obj C_Tank [] [])) x (.obj C_Tank A_Tank [.s ware, .i 0, .i (10 ^ 6), .i start, .i 0, .lst (if 0 < start then [.tup [.s ware, .tup [.i start, .i 1]]] else []), .tup [.i 0, .i 1]])) x) := by
    intro a y hy
    have h1 := hsub a y hy
    have ne : a ≠ x := by
      rintro rfl
      rw [hx] at h1
      cases h1
    rw [rmM_ne ne, updM_ne ne, updM_ne ne]
    exact h1
  have hMp2 : rmM (updM (updM M1 x (.obj C_Tank [] [])) x (.obj C_Tank A_Tank [.s ware, .i 0, .i (10 ^ 6), .i start, .i 0, .lst (if 0 < start then [.tup [.s ware, .tup [.i start, .i 1]]] else []), .tup [.i 0, .i 1]])) x p = some (.dct (dk .i T)) := by
    have ne : p ≠ x := by
      rintro rfl
      rw [hx] at hMp
      cases hMp
    rw [rmM_ne ne, updM_ne ne, updM_ne ne]
    exact hMp
  generalize rmM (updM (updM M1 x (.obj C_Tank [] [])) x (.obj C_Tank A_Tank [.s ware, .i 0, .i (10 ^ 6), .i start, .i 0, .lst (if 0 < start then [.tup [.s ware, .tup [.i start, .i 1]]] else []), .tup [.i 0, .i 1]])) x = M2 at hsub2 hMp2 ⊢
  refine ⟨F, rfl, sF, by omega, fun F' hF' => ?_⟩
  obtain ⟨nF', mF'⟩ := perm_nn hF'
  have sF' : SOk F' := fun p hp => sF p (mF' p hp)
  have lF' := perm_len hF'
  have tF' := perm_tot hF' nF
  have t0 := h0_tot (ware := ware) st0
  have l0 := h0_len (ware := ware) (start := start)
  refine ⟨ware, 0, 10 ^ 6, start, 0, h0A ware start, .tup [.i 0, .i 1], F', .tup [.i 1, .i 1], ?_, h0_sok hwo, sF', h0_nn, nF', by omega, by omega, fun l2 j2 => ?_⟩
  · show [D.obj _ _ [_, _, _, _, _, D.lst (if 0 < start then _ else _), _], _, _] = _
    rw [h0_shr]
    rfl
  have jn2 := j2.jn (h0_sok hwo) sF' h0_nn nF'
  refine ⟨G, rfl, sG, by omega, fun G' hG' => ?_⟩
  obtain ⟨nG', mG'⟩ := perm_nn hG'
  have sG' : SOk G' := fun p hp => sG p (mG' p hp)
  have lG' := perm_len hG'
  have tG' := perm_tot hG' nG
  have n2 : NN l2 := fun p hp => Int.le_of_lt (jn2.pos p hp)
  have t2 := jn2.tot
  have l2' := jn2.len
  refine ⟨5, _, T_Tank.fk 5, rfl, l2.map shr, rfl, G'.map shr, rfl, b.map bnD, rfl, ?_⟩
  refine ⟨ware, 0, 10 ^ 6, start, 0, l2, _, G', b, rfl, jn2.sok, sG', n2, nG', by omega, by omega, hwo, hb, fun l3 j3 => ?_⟩
  have jn3 := j3.jn jn2.sok sG' n2 nG'
  refine ⟨rfl, if_f rfl ?_⟩
  have cT : ∀ u, cnt T u = cnt [(ware, 12 * start)] u + (cnt F u + cnt G u) := fun u => by rw [hc.cnt, DS.cnt_append]
  have nT : NN T := col_nn hc (fun p hp => by
    cases List.mem_singleton.mp hp
    show 0 ≤ 12 * start
    omega) (nn_append nF nG)
  have sT : SOk T := col_sok hc (fun p hp => by
    cases List.mem_singleton.mp hp
    exact hwo) (sok_append sF sG)
  have tT : tot T = 12 * start + (tot F + tot G) := by
    rw [hc.tot, DS.tot_append]
    show 12 * start + 0 + _ = _
    omega
  refine ⟨ware, p, T, b, rfl, hMp2, hwo, sT, nT, hb, hbl, by omega, ?_⟩
  have fe := fits_eq (ware := ware) hb jn3.nd hc.nd jn3.pos nT (fun u => by
    rw [jn3.cnt, jn2.cnt, perm_cnt hF' nF, perm_cnt hG' nG, h0_cnt st0, cT]
    omega) (by rw [jn3.tot, jn2.tot, tF', tG', t0, tT]; omega)
  rw [← fe]
  refine ⟨rfl, ?_⟩
  show if (!decide (V.bl (fits ware b l3) = V.bl (fits ware b l3))) = true then _ else _
  rw [decide_eq_true rfl]
  refine if_f rfl ?_
  refine ⟨5, _, T_Tank.fk 5, rfl, ?_⟩
  have hpl : PL 4 (.lst [.lst (l2.map shr), .lst (G'.map shr), .lst (b.map bnD)]) := pl_lst (all_cons (pl_shD jn2.sok) (all_cons (pl_shD sG') (all_cons (pl_lst fun d hd => by
    obtain ⟨t, ht, rfl⟩ := List.mem_map.mp hd
    exact pl_bn (hb t ht).1 (hb t ht).2.1) all_nil)))
  refine ⟨hpl.plain (by decide), hpl.plain (by decide), M'', hsub2, ?_⟩
  show Q (.b (PyData.eqv _ _)) M''
  rw [eqv_refl0 _ hpl.1]
  exact q
abbrev N_law : List Str := ["_law_script", "_law_wares_here", "_law_k"]
def sp_law : DSp := fun ds M Q _ => ∃ xs : List Int, ds = [.ro (intsD xs)] ∧ Q (.b true) M
theorem sc_law : FnScope ["_law_script", "_law_wares_here", "_law_k"] ["_law_script"] (defScope s_law) := ⟨rfl, rfl, rfl, by decide +kernel, rfl, by decide +kernel, by decide +kernel⟩
theorem ok_law  {f : Addr} {fd : FuncData} (F : FunD K "law" "law" (defArgs s_law) (defBody s_law) (defScope s_law) [] [] f fd) (G_law_wares : Fn P w K mg base CX0 2 "_law_wares" ["_law_cell"] [] sp_law_wares) (G_law_at : Fn P w K mg base CX0 1 "_law_at" ["_law_script", "_law_k"] [] sp_law_at) (g_range : mg "range" = none) (G_law_round : Fn P w K mg base CX0 6 "_law_round" ["_law_script", "_law_k", "_law_wares_here"] [] sp_law_round) : FnOk P w K mg base CX0 7 f fd ["_law_script"] (upSp K sp_law) := by
  refine fn_mk F sc_law (fun ds M Q XE h => by
    obtain ⟨_, rfl, _⟩ := h; rfl) (fun cdv A outer s H E hr => ?_)
  have hu := hu_of hr
  have hu4 := hr.units
  have hu5 := units65 hr
  refine ⟨_, _, by
    exact (ss_cons (s_set (i := 1) sc_law.nd (e_call G_law_wares (hr.mono (by decide)) rfl (a_cons (e_call G_law_at (hr.mono (by decide)) rfl (a_cons (ev 0) (a_cons e_int a_nil))) a_nil)))
      (ss_cons (s_for PassesOwn.never rfl (i_range1 g_range (a_cons e_int a_nil)) (g_name (i := 2) sc_law.nd) (ss_one (s_if (b_not (b_val (e_call G_law_round (hr.mono (by decide)) rfl (a_cons (ev 0) (a_cons (ev 2) (a_cons (ev 1) a_nil)))))) (ss_one (s_ret e_bl)) ss_nil)))
      (ss_one (s_ret e_bl)))), ?_⟩
  rintro ds M Q XE ⟨xs, rfl, q⟩
  refine ⟨xs, 0, rfl, by decide, fun c => ?_⟩
  refine ⟨c, rfl, fun ws hl hw => ?_⟩
  refine ⟨⟨by decide, by decide⟩, ?_⟩
  show dLoop _ _ ((List.range 12).map fun i : Nat => D.i (0 + (i : Int))) _ _ _
  refine loop_ind (f := fun i : Nat => D.i (0 + (i : Int))) (fun r E M' => ∃ x, (∀ i ∈ r, i < 12) ∧ E = [some (.ro (intsD xs)), some (.lst (ws.map .s)), x] ∧ M' = M) ?_ ?_ _ _ _ ⟨none, fun i hi => List.mem_range.mp hi, rfl, rfl⟩
  · rintro i r N hN E M' ⟨x, hm, rfl, rfl⟩
    have hi := hm i List.mem_cons_self
    exact ⟨xs, 0 + (i : Int), ws, rfl, hl, hw, by omega, by omega, if_f rfl (hN _ _ ⟨_, fun j hj => hm j (List.mem_cons_of_mem _ hj), rfl, rfl⟩)⟩
  · rintro E M' ⟨x, _, rfl, rfl⟩
    exact ⟨_, SubM.refl _, q⟩
end
theorem allS_nil {p : PySem.Str → Prop} : ∀ f ∈ ([] : List PySem.Str), p f := fun _ h => nomatch h
theorem allS_cons {p : PySem.Str → Prop} {x : PySem.Str} {l : List PySem.Str} (h : p x) (t : ∀ f ∈ l, p f) : ∀ f ∈ x :: l, p f := fun d hd => (List.mem_cons.mp hd).elim (fun e => e ▸ h) (t d)
theorem facts {P : Program} {w : World} {K : PySem.W.Frag} {h : Heap} {mg : Str → Option Value} {fa1 : Addr} (KX : K.In h) (G : h.Ns mainGlobals mg) (hl : mg "law" = some (.ref fa1)) (c : He.SaysD fa fn K) :
    ∃ fd : FuncData, (∀ (s : Shared) (u : Value), BindsTo s fd ⟨[u], []⟩ [("_law_script", u)]) ∧ ∀ base : Heap, K.In base → base.Ns mainGlobals mg → FnOk P w K mg base CX0 7 fa1 fd ["_law_script"] (upSp K sp_law) := by
  obtain ⟨fd_common_part, F_common_part⟩ := c.def_ 0
  obtain ⟨fd_below, F_below⟩ := c.def_ 4
  obtain ⟨fd_TankU_initU, F_TankU_initU⟩ := c.def_ 5
  obtain ⟨fd_part_allowed, F_part_allowed⟩ := c.def_ 9
  obtain ⟨fd_law_mix, F_law_mix⟩ := c.def_ 12
  obtain ⟨fd_law_at, F_law_at⟩ := c.def_ 13
  obtain ⟨fd_law_frac, F_law_frac⟩ := c.def_ 16
  obtain ⟨fd_law_right, F_law_right⟩ := c.def_ 17
  obtain ⟨fd_law_edge, F_law_edge⟩ := c.def_ 18
  obtain ⟨fd_made, F_made⟩ := c.def_ 1
  obtain ⟨fd_law_wares, F_law_wares⟩ := c.def_ 14
  obtain ⟨fd_law_bounds, F_law_bounds⟩ := c.def_ 15
  obtain ⟨fd_law_put, F_law_put⟩ := c.def_ 19
  obtain ⟨fd_sum_of, F_sum_of⟩ := c.def_ 2
  obtain ⟨fd_times, F_times⟩ := c.def_ 3
  obtain ⟨fd_tank_with, F_tank_with⟩ := c.def_ 8
  obtain ⟨fd_shares_together, F_shares_together⟩ := c.def_ 6
  obtain ⟨fd_volume_in, F_volume_in⟩ := c.def_ 7
  obtain ⟨fd_may_blend, F_may_blend⟩ := c.def_ 10
  obtain ⟨fd_put_in, F_put_in⟩ := c.def_ 11
  obtain ⟨fd_law_round, F_law_round⟩ := c.def_ 20
  obtain ⟨fd_law, F_law⟩ := c.def_ 21
  have T_Tank : TC K (He.ga K "Tank") A_Tank := ⟨He.cls_ok (c.fact 31), (allS_cons (He.noat_ok (c.fact 32)) (allS_cons (He.noat_ok (c.fact 33)) (allS_cons (He.noat_ok (c.fact 34)) (allS_cons (He.noat_ok (c.fact 35)) (allS_cons (He.noat_ok (c.fact 36)) (allS_cons (He.noat_ok (c.fact 37)) (allS_cons (He.noat_ok (c.fact 38)) allS_nil)))))))⟩
  have g_len : mg "len" = none := He.free_ok KX G (c.fact 26)
  have g_abs : mg "abs" = none := He.free_ok KX G (c.fact 22)
  have g_sum : mg "sum" = none := He.free_ok KX G (c.fact 30)
  have g_list : mg "list" = none := He.free_ok KX G (c.fact 27)
  have g_range : mg "range" = none := He.free_ok KX G (c.fact 28)
  have g_sorted : mg "sorted" = none := He.free_ok KX G (c.fact 29)
  have g_enumerate : mg "enumerate" = none := He.free_ok KX G (c.fact 24)
  have g_isinstance : mg "isinstance" = none := He.free_ok KX G (c.fact 25)
  have g_bool : mg "bool" = none := He.free_ok KX G (c.fact 23)
  have ml := He.glo_ok KX G (x := "law") (c.fact 21)
  have efa : fa1 = He.ga K "law" := by
    rw [ml] at hl
    injection hl with e
    injection e with e
    exact e.symm
  subst efa
  refine ⟨fd_law, fun s u => F_law.bindsA (ps := ["_law_script"]) (fun _ _ _ _ _ _ us hl => match us, hl with | [_], _ => rfl) s [u] rfl, fun base _ _ => ?_⟩
  have G_common_part : Fn P w K mg base CX0 1 "common_part" ["one", "other"] [] sp_common_part := ⟨_, fd_common_part, [], He.glo_ok KX G (c.fact 0), F_common_part.kp, ok_common_part F_common_part   , .nil, F_common_part.bindsN (fun _ _ _ _ _ _ us hl => match us, hl with | [_, _], _ => rfl)⟩
  have G_below : Fn P w K mg base CX0 1 "below" ["one", "other"] [] sp_below := ⟨_, fd_below, [], He.glo_ok KX G (c.fact 4), F_below.kp, ok_below F_below   , .nil, F_below.bindsN (fun _ _ _ _ _ _ us hl => match us, hl with | [_, _], _ => rfl)⟩
  have G_Tank : Cl P w K mg base CX0 1 "Tank" (He.ga K "Tank") ["self", "ware", "low", "high", "start", "settle"] [] (sp_TankU_initU K (He.ga K "Tank")) := ⟨He.glo_ok KX G (c.fact 5), _, fd_TankU_initU, [], He.mkr_ok (c.fact 39), ok_TankU_initU F_TankU_initU  T_Tank , .nil, F_TankU_initU.bindsN (fun _ _ _ _ _ _ us hl => match us, hl with | [_, _, _, _, _, _], _ => rfl)⟩
  have G_part_allowed : Fn P w K mg base CX0 1 "part_allowed" ["bounds", "ware", "other"] [] sp_part_allowed := ⟨_, fd_part_allowed, [], He.glo_ok KX G (c.fact 9), F_part_allowed.kp, ok_part_allowed F_part_allowed   , .nil, F_part_allowed.bindsN (fun _ _ _ _ _ _ us hl => match us, hl with | [_, _, _], _ => rfl)⟩
  have G_law_mix : Fn P w K mg base CX0 1 "_law_mix" ["_law_cell", "_law_k"] [] sp_law_mix := ⟨_, fd_law_mix, [], He.glo_ok KX G (c.fact 12), F_law_mix.kp, ok_law_mix F_law_mix   , .nil, F_law_mix.bindsN (fun _ _ _ _ _ _ us hl => match us, hl with | [_, _], _ => rfl)⟩
  have G_law_at : Fn P w K mg base CX0 1 "_law_at" ["_law_script", "_law_k"] [] sp_law_at := ⟨_, fd_law_at, [], He.glo_ok KX G (c.fact 13), F_law_at.kp, ok_law_at F_law_at g_len  , .nil, F_law_at.bindsN (fun _ _ _ _ _ _ us hl => match us, hl with | [_, _], _ => rfl)⟩
  have G_law_frac : Fn P w K mg base CX0 1 "_law_frac" ["_law_number", "_law_parts"] [] sp_law_frac := ⟨_, fd_law_frac, [], He.glo_ok KX G (c.fact 16), F_law_frac.kp, ok_law_frac F_law_frac g_abs  , .nil, F_law_frac.bindsN (fun _ _ _ _ _ _ us hl => match us, hl with | [_, _], _ => rfl)⟩
  have G_law_right : Fn P w K mg base CX0 1 "_law_right" ["_law_ware", "_law_twelfths", "_law_bounds_here"] [] sp_law_right := ⟨_, fd_law_right, [], He.glo_ok KX G (c.fact 17), F_law_right.kp, ok_law_right F_law_right g_sum g_list  , .nil, F_law_right.bindsN (fun _ _ _ _ _ _ us hl => match us, hl with | [_, _, _], _ => rfl)⟩
  have G_law_edge : Fn P w K mg base CX0 1 "_law_edge" ["_law_bounds_here", "_law_ware", "_law_one"] [] sp_law_edge := ⟨_, fd_law_edge, [], He.glo_ok KX G (c.fact 18), F_law_edge.kp, ok_law_edge F_law_edge g_len  , .nil, F_law_edge.bindsN (fun _ _ _ _ _ _ us hl => match us, hl with | [_, _, _], _ => rfl)⟩
  have G_made : Fn P w K mg base CX0 2 "made" ["number", "parts"] [] sp_made := ⟨_, fd_made, [], He.glo_ok KX G (c.fact 1), F_made.kp, ok_made F_made G_common_part g_abs  , .nil, F_made.bindsN (fun _ _ _ _ _ _ us hl => match us, hl with | [_, _], _ => rfl)⟩
  have G_law_wares : Fn P w K mg base CX0 2 "_law_wares" ["_law_cell"] [] sp_law_wares := ⟨_, fd_law_wares, [], He.glo_ok KX G (c.fact 14), F_law_wares.kp, ok_law_wares F_law_wares G_law_mix g_range  , .nil, F_law_wares.bindsN (fun _ _ _ _ _ _ us hl => match us, hl with | [_], _ => rfl)⟩
  have G_law_bounds : Fn P w K mg base CX0 2 "_law_bounds" ["_law_cell", "_law_wares_here"] [] sp_law_bounds := ⟨_, fd_law_bounds, [], He.glo_ok KX G (c.fact 15), F_law_bounds.kp, ok_law_bounds F_law_bounds g_range G_law_mix  , .nil, F_law_bounds.bindsN (fun _ _ _ _ _ _ us hl => match us, hl with | [_, _], _ => rfl)⟩
  have G_law_put : Fn P w K mg base CX0 2 "_law_put" ["_law_amounts"] [] sp_law_put := ⟨_, fd_law_put, [], He.glo_ok KX G (c.fact 19), F_law_put.kp, ok_law_put F_law_put g_sorted G_law_frac  , .nil, F_law_put.bindsN (fun _ _ _ _ _ _ us hl => match us, hl with | [_], _ => rfl)⟩
  have G_sum_of : Fn P w K mg base CX0 3 "sum_of" ["one", "other"] [] sp_sum_of := ⟨_, fd_sum_of, [], He.glo_ok KX G (c.fact 2), F_sum_of.kp, ok_sum_of F_sum_of G_made  , .nil, F_sum_of.bindsN (fun _ _ _ _ _ _ us hl => match us, hl with | [_, _], _ => rfl)⟩
  have G_times : Fn P w K mg base CX0 3 "times" ["one", "other"] [] sp_times := ⟨_, fd_times, [], He.glo_ok KX G (c.fact 3), F_times.kp, ok_times F_times G_made  , .nil, F_times.bindsN (fun _ _ _ _ _ _ us hl => match us, hl with | [_, _], _ => rfl)⟩
  have G_tank_with : Fn P w K mg base CX0 3 "tank_with" ["tank", "holds", "rested"] [] (sp_tank_with (He.ga K "Tank")) := ⟨_, fd_tank_with, [], He.glo_ok KX G (c.fact 8), F_tank_with.kp, ok_tank_with F_tank_with G_Tank g_list T_Tank , .nil, F_tank_with.bindsN (fun _ _ _ _ _ _ us hl => match us, hl with | [_, _, _], _ => rfl)⟩
  have G_shares_together : Fn P w K mg base CX0 4 "shares_together" ["one", "other"] [] sp_shares_together := ⟨_, fd_shares_together, [], He.glo_ok KX G (c.fact 6), F_shares_together.kp, ok_shares_together F_shares_together G_sum_of g_sorted  , .nil, F_shares_together.bindsN (fun _ _ _ _ _ _ us hl => match us, hl with | [_, _], _ => rfl)⟩
  have G_volume_in : Fn P w K mg base CX0 4 "volume_in" ["shares"] [] sp_volume_in := ⟨_, fd_volume_in, [], He.glo_ok KX G (c.fact 7), F_volume_in.kp, ok_volume_in F_volume_in G_sum_of  , .nil, F_volume_in.bindsN (fun _ _ _ _ _ _ us hl => match us, hl with | [_], _ => rfl)⟩
  have G_may_blend : Fn P w K mg base CX0 5 "may_blend" ["tank", "shares", "bounds"] [] (sp_may_blend (He.ga K "Tank")) := ⟨_, fd_may_blend, [], He.glo_ok KX G (c.fact 10), F_may_blend.kp, ok_may_blend F_may_blend G_shares_together G_volume_in G_below G_times G_part_allowed T_Tank , .nil, F_may_blend.bindsN (fun _ _ _ _ _ _ us hl => match us, hl with | [_, _, _], _ => rfl)⟩
  have G_put_in : Fn P w K mg base CX0 5 "put_in" ["tank", "shares", "hour"] [] (sp_put_in (He.ga K "Tank")) := ⟨_, fd_put_in, [], He.glo_ok KX G (c.fact 11), F_put_in.kp, ok_put_in F_put_in G_tank_with G_shares_together T_Tank , .nil, F_put_in.bindsN (fun _ _ _ _ _ _ us hl => match us, hl with | [_, _, _], _ => rfl)⟩
  have G_law_round : Fn P w K mg base CX0 6 "_law_round" ["_law_script", "_law_k", "_law_wares_here"] [] sp_law_round := ⟨_, fd_law_round, [], He.glo_ok KX G (c.fact 20), F_law_round.kp, ok_law_round F_law_round G_law_at G_law_mix G_law_bounds g_enumerate G_law_edge G_put_in G_law_put G_Tank g_list G_may_blend G_law_right g_isinstance g_bool T_Tank , .nil, F_law_round.bindsN (fun _ _ _ _ _ _ us hl => match us, hl with | [_, _, _], _ => rfl)⟩
  exact ok_law F_law G_law_wares G_law_at g_range G_law_round  
theorem law_start {K : PySem.W.Frag} {H : Hp} {a : Addr} {ns : List Int} (hS : SqL K H a (ns.map V.int)) : upSp K sp_law [.ref a] H (fun v _ => v = .bl true) (fun _ _ _ => False) := by
  have e : intsD ns = (ns.map V.int).map D.v := by
    unfold intsD
    rw [List.map_map]
    rfl
  refine ⟨H, fun _ => none, [.ro (intsD ns)], fun d _ => d = .b true, fun _ _ _ => False, ⟨Same.refl H, fun _ _ z => nomatch z⟩, .cons (Rep.ro_iff.mpr ⟨a, _, rfl, hS, ?_⟩) .nil, ⟨ns, rfl, rfl⟩, ?_, fun _ _ _ _ _ _ _ _ _ z => z⟩
  · rw [e]
    exact RepL.of_vs
  · rintro F' H' M' d v _ _ r rfl
    exact Rep.v_eq r
end G

open PySem PySem.W PySem.Calls PyProof.Rows
set_option maxRecDepth 100000 in
set_option maxHeartbeats 8000000 in
theorem PySem.Challenge.cw_batchpipe_k41_may_blend_holds : PySem.Challenge.rw_batchpipe_k41_may_blend.Holds := by
  w_on; o_law
  refine HandSHeadRun.head_any (r := OpenLaw.row PySem.Challenge.rw_batchpipe_k41_may_blend) (q := view (OpenLaw.row PySem.Challenge.rw_batchpipe_k41_may_blend).prog [24]) (H := G.hk) (ob := G.ob) (M := 4000) (loose := G.loose) (d := HandSHeadRun.topDef (OpenLaw.row PySem.Challenge.rw_batchpipe_k41_may_blend).prog 24) (kwd := []) G.ob_eq
    (by kernel_rfl) (fun s => by kernel_rfl) G.run (by kernel_rfl) (by kernel_rfl) (by kernel_rfl) (by rfl) (by first | assumption | decide +kernel) (by decide +kernel) ⟨rfl, rfl, rfl, rfl, rfl, by decide +kernel⟩ ?hw ?hc
  case hw => w_witness2
  case hc =>
    refine L2.walk_ofE (l := PySem.Challenge.rw_batchpipe_k41_may_blend) (n := 63) (k := 7) (x := "_law_script") (CX := L2.CX0) rfl (by decide) (by kernel_rfl) ⟨rfl, by decide, by decide⟩ ?F (fun _ _ _ _ z => z)
    intro w mg fa h Y G hmg0
    obtain ⟨K, KX, c⟩ := Y
    have hmg : mg ("law" : PySem.Str) = some (.ref fa) := by
      have e : (HandSHeadRun.topDef (OpenLaw.row PySem.Challenge.rw_batchpipe_k41_may_blend).prog 24).name = ("law" : PySem.Str) := by kernel_rfl
      rw [← e]
      exact hmg0
    obtain ⟨fd, hb, hF⟩ := _root_.G.facts (P := (PySem.Challenge.rw_batchpipe_k41_may_blend).prog) (w := w) KX G hmg c
    exact ⟨K, fd, _, KX, hb, fun H a ns hl _ hS => _root_.G.law_start hS, hF⟩
