import PyProof.Rows.All
import Wide.All
import OpenK.AllK
import Wide.FinOn
import HandS.ForMost
import HandS.ForExc
import HandS.Lambda
import HandS.TupAny
import HandS.IsInst
import HandS.Style
import HandS.Walk
import HandS.Deep
import HandS.Conv
import HandS.SortInts
import KE.GoesEnum
import KE.KSortKeySt
import KE.KLam
import HandS.ExcIs
import HandS.More
import HandS.EndOwn
import KE.KNestM
import PySem.Challenge.RW_hueward_k75_stretches_and_exchanges
set_option Elab.async false
set_option linter.all false
set_option maxRecDepth 100000
set_option maxHeartbeats 2000000
/-! A layer of plain values: tuples are values, lists and dicts stand in a map; each construct is a function upon them. -/
namespace ML
open PySem PySem.Spec PyProof.Rows L2
/-! ### values -/
inductive W where
  | non | bl (b : Bool) | int (i : Int) | str (x : Str) | ty (n : String) | ref (a : Addr) | tup (xs : List W)
  /-- a list that nobody changes (the script) -/
  | lsv (xs : List W)
/-- a list that stays: locked, or of the written part -/
def SqF (K : PySem.W.Frag) (H : Hp) (a : Addr) (xs : List V) : Prop :=
  (∃ o, H a = some (.frz o (.lst xs))) ∨
    ∃ (o : Obj) (its : Array Value) (n : Nat), K.lookup a = some o ∧ o.cls = .type "list" ∧ o.dict = none ∧ o.data = .seq its n ∧ its.size ≤ sizeLine ∧ Vals xs its.toList
theorem SqF.sq {K : PySem.W.Frag} {H : Hp} {a : Addr} {xs : List V} (h : SqF K H a xs) : SqL K H a xs := by
  rcases h with ⟨o, h⟩ | h
  · exact .inl (.inr ⟨o, h⟩)
  · exact .inr h
mutual
/-- the value w lies as v in the heap H -/
def Rep (K : PySem.W.Frag) (H : Hp) : W → V → Prop
  | .non, v => v = .non
  | .bl b, v => v = .bl b
  | .int i, v => v = .int i
  | .str x, v => v = .str x
  | .ty n, v => v = .ty n
  | .ref a, v => v = .ref a
  | .tup ws, v => ∃ p us, v = .ref p ∧ SqT K H p us ∧ Reps K H ws us
  | .lsv ws, v => ∃ p us, v = .ref p ∧ SqF K H p us ∧ Reps K H ws us
def Reps (K : PySem.W.Frag) (H : Hp) : List W → List V → Prop
  | [], us => us = []
  | w :: ws, us => ∃ u r, us = u :: r ∧ Rep K H w u ∧ Reps K H ws r
end
/-- tuples and locked things stay -/
structure Grow (H H' : Hp) : Prop where
  tup : ∀ b xs, H b = some (.tup xs) → H' b = some (.tup xs)
  frz : ∀ b o u, H b = some (.frz o u) → H' b = some (.frz o u)
theorem Grow.refl {H : Hp} : Grow H H := ⟨fun _ _ h => h, fun _ _ _ h => h⟩
theorem Grow.trans {H H1 H2 : Hp} (a : Grow H H1) (b : Grow H1 H2) : Grow H H2 := ⟨fun c xs h => b.tup c xs (a.tup c xs h), fun c o u h => b.frz c o u (a.frz c o u h)⟩
theorem Grow.new {H : Hp} {p : Addr} {o : HO} (h : H p = none) : Grow H (upd H p o) :=
  ⟨fun b xs e => by rw [upd_ne (ne_of_none e h)]; exact e, fun b o u e => by rw [upd_ne (ne_of_none e h)]; exact e⟩
theorem Grow.set {H : Hp} {p : Addr} {o o' : HO} (h : H p = some o) (m : Mut (some o)) : Grow H (upd H p o') :=
  ⟨fun b xs e => by
    rw [upd_ne (ne_of e h (fun z => by rw [← z] at m; exact m))]; exact e, fun b ob u e => by
    rw [upd_ne (ne_of e h (fun z => by rw [← z] at m; exact m))]; exact e⟩
theorem SqT.grow {K : PySem.W.Frag} {H H' : Hp} {p : Addr} {us : List V} (g : Grow H H') (h : SqT K H p us) : SqT K H' p us := by
  rcases h with (h | ⟨o, h⟩) | h
  · exact .inl (.inl (g.tup _ _ h))
  · exact .inl (.inr ⟨o, g.frz _ _ _ h⟩)
  · exact .inr h
theorem SqF.grow {K : PySem.W.Frag} {H H' : Hp} {p : Addr} {us : List V} (g : Grow H H') (h : SqF K H p us) : SqF K H' p us := by
  rcases h with ⟨o, h⟩ | h
  · exact .inl ⟨o, g.frz _ _ _ h⟩
  · exact .inr h
mutual
theorem Rep.grow {K : PySem.W.Frag} {H H' : Hp} (g : Grow H H') : ∀ {w : W} {v : V}, Rep K H w v → Rep K H' w v
  | .non, _, h => h
  | .bl _, _, h => h
  | .int _, _, h => h
  | .str _, _, h => h
  | .ty _, _, h => h
  | .ref _, _, h => h
  | .tup ws, v, h => by
    simp only [Rep] at h ⊢
    obtain ⟨p, us, e, s, r⟩ := h
    exact ⟨p, us, e, SqT.grow g s, Reps.grow g r⟩
  | .lsv ws, v, h => by
    simp only [Rep] at h ⊢
    obtain ⟨p, us, e, s, r⟩ := h
    exact ⟨p, us, e, SqF.grow g s, Reps.grow g r⟩
theorem Reps.grow {K : PySem.W.Frag} {H H' : Hp} (g : Grow H H') : ∀ {ws : List W} {us : List V}, Reps K H ws us → Reps K H' ws us
  | [], _, h => by
    simp only [Reps] at h ⊢
    exact h
  | w :: ws, us, h => by
    simp only [Reps] at h ⊢
    obtain ⟨u, r, e, a, b⟩ := h
    exact ⟨u, r, e, Rep.grow g a, Reps.grow g b⟩
end
section
variable {K : PySem.W.Frag} {H : Hp}
theorem Reps.length : ∀ {ws : List W} {us : List V}, Reps K H ws us → us.length = ws.length
  | [], _, h => by
    simp only [Reps] at h
    rw [h]; rfl
  | w :: ws, us, h => by
    simp only [Reps] at h
    obtain ⟨u, r, e, a, b⟩ := h
    rw [e, List.length_cons, List.length_cons, Reps.length b]
theorem Reps.get : ∀ {ws : List W} {us : List V} {i : Nat} {w : W}, Reps K H ws us → ws[i]? = some w → ∃ u, us[i]? = some u ∧ Rep K H w u
  | [], _, _, _, _, e => by simp at e
  | w :: ws, us, 0, x, h, e => by
    simp only [Reps] at h
    obtain ⟨u, r, e', a, b⟩ := h
    simp at e; subst e; subst e'
    exact ⟨u, rfl, a⟩
  | w :: ws, us, i + 1, x, h, e => by
    simp only [Reps] at h
    obtain ⟨u, r, e', a, b⟩ := h
    subst e'
    obtain ⟨v, h1, h2⟩ := Reps.get (i := i) (w := x) b (by simpa using e)
    exact ⟨v, by simpa using h1, h2⟩
theorem Reps.nil : Reps K H [] [] := by simp only [Reps]
theorem Reps.cons {w : W} {ws : List W} {u : V} {us : List V} (a : Rep K H w u) (b : Reps K H ws us) : Reps K H (w :: ws) (u :: us) := by
  simp only [Reps]; exact ⟨u, us, rfl, a, b⟩
theorem Reps.nil_inv {us : List V} (h : Reps K H [] us) : us = [] := by simpa only [Reps] using h
theorem Reps.cons_inv {w : W} {ws : List W} {us : List V} (h : Reps K H (w :: ws) us) : ∃ u r, us = u :: r ∧ Rep K H w u ∧ Reps K H ws r := by simpa only [Reps] using h
theorem Reps.append : ∀ {ws xs : List W} {us vs : List V}, Reps K H ws us → Reps K H xs vs → Reps K H (ws ++ xs) (us ++ vs)
  | [], _, us, _, h, h' => by rw [h.nil_inv]; exact h'
  | w :: ws, _, us, _, h, h' => by
    obtain ⟨u, r, e, a, b⟩ := h.cons_inv
    subst e
    exact Reps.cons a (Reps.append b h')
theorem Reps.take : ∀ (n : Nat) {ws : List W} {us : List V}, Reps K H ws us → Reps K H (ws.take n) (us.take n)
  | 0, _, _, _ => by simpa using Reps.nil
  | n + 1, [], us, h => by rw [h.nil_inv]; simpa using Reps.nil
  | n + 1, w :: ws, us, h => by
    obtain ⟨u, r, e, a, b⟩ := h.cons_inv
    subst e
    exact Reps.cons a (Reps.take n b)
theorem Reps.drop : ∀ (n : Nat) {ws : List W} {us : List V}, Reps K H ws us → Reps K H (ws.drop n) (us.drop n)
  | 0, _, _, h => by simpa using h
  | n + 1, [], us, h => by rw [h.nil_inv]; simpa using Reps.nil
  | n + 1, w :: ws, us, h => by
    obtain ⟨u, r, e, a, b⟩ := h.cons_inv
    subst e
    simpa using Reps.drop n b
theorem Reps.set {x : W} {v : V} (hx : Rep K H x v) : ∀ (n : Nat) {ws : List W} {us : List V}, Reps K H ws us → Reps K H (ws.set n x) (us.set n v)
  | _, [], us, h => by rw [h.nil_inv]; simpa using Reps.nil
  | 0, w :: ws, us, h => by
    obtain ⟨u, r, e, a, b⟩ := h.cons_inv
    subst e
    exact Reps.cons hx b
  | n + 1, w :: ws, us, h => by
    obtain ⟨u, r, e, a, b⟩ := h.cons_inv
    subst e
    exact Reps.cons a (Reps.set hx n b)
theorem Reps.erase : ∀ (n : Nat) {ws : List W} {us : List V}, Reps K H ws us → Reps K H (ws.eraseIdx n) (us.eraseIdx n)
  | _, [], us, h => by rw [h.nil_inv]; simpa using Reps.nil
  | 0, w :: ws, us, h => by
    obtain ⟨u, r, e, a, b⟩ := h.cons_inv
    subst e
    simpa using b
  | n + 1, w :: ws, us, h => by
    obtain ⟨u, r, e, a, b⟩ := h.cons_inv
    subst e
    simpa using Reps.cons a (Reps.erase n b)
theorem Reps.ints : ∀ {ns : List Int}, Reps K H (ns.map W.int) (ns.map V.int)
  | [] => Reps.nil
  | n :: ns => Reps.cons (by simp only [Rep]) Reps.ints
theorem Reps.ints_inv : ∀ {ns : List Int} {us : List V}, Reps K H (ns.map W.int) us → us = ns.map V.int
  | [], us, h => h.nil_inv
  | n :: ns, us, h => by
    obtain ⟨u, r, e, a, b⟩ := h.cons_inv
    subst e
    simp only [Rep] at a
    rw [a, Reps.ints_inv b]; rfl
end
/-! ### what stands at an address -/
inductive MO where
  | lst (ws : List W)
  | dct (kvs : List (Key × W))
  | ins (C : Addr) (fs : List (Str × W))
  | exc (cls : Value)
  /-- the state that numbers are drawn from -/
  | drw (n : Nat)
abbrev Mh := Addr → Option MO
def updM (M : Mh) (a : Addr) (o : MO) : Mh := fun b => if b = a then some o else M b
theorem updM_same {M : Mh} {a : Addr} {o : MO} : updM M a o a = some o := by unfold updM; rw [if_pos rfl]
theorem updM_ne {M : Mh} {a b : Addr} {o : MO} (h : b ≠ a) : updM M a o b = M b := by unfold updM; rw [if_neg h]
theorem updM_upd {M : Mh} {a : Addr} {o u : MO} : updM (updM M a o) a u = updM M a u := by
  funext b; unfold updM; split <;> rfl
theorem updM_comm {M : Mh} {a b : Addr} {o u : MO} (h : a ≠ b) : updM (updM M a o) b u = updM (updM M b u) a o := by
  funext c; unfold updM
  by_cases h1 : c = b
  · have h2 : ¬ c = a := fun z => h (z.symm.trans h1)
    rw [if_pos h1, if_neg h2, if_pos h1]
  · rw [if_neg h1, if_neg h1]
def Sub (M M' : Mh) : Prop := ∀ a o, M a = some o → M' a = some o
theorem Sub.refl {M : Mh} : Sub M M := fun _ _ h => h
theorem Sub.trans {M M1 M2 : Mh} (a : Sub M M1) (b : Sub M1 M2) : Sub M M2 := fun c o h => b c o (a c o h)
theorem Sub.new {M M' : Mh} {p : Addr} {o : MO} (s : Sub M M') (h : M' p = none) : Sub M (updM M' p o) := fun b u e => by
  have z : b ≠ p := fun z => by subst z; rw [s b u e] at h; cases h
  rw [updM_ne z]; exact s b u e
theorem Sub.free {M M' : Mh} {p : Addr} (s : Sub M M') (h : M' p = Option.none) : M p = Option.none := by
  cases q : M p with
  | none => rfl
  | some o => rw [s p o q] at h; cases h
theorem Sub.upd {M M' : Mh} {p : Addr} {o : MO} (s : Sub M M') : Sub (updM M p o) (updM M' p o) := fun b u e => by
  by_cases z : b = p
  · subst z; rw [updM_same] at e ⊢; exact e
  · rw [updM_ne z] at e ⊢; exact s b u e
theorem ne_of_noneM {M : Mh} {a b : Addr} {o : MO} (h : M a = some o) (h' : M b = none) : a ≠ b := by
  intro e; subst e; rw [h] at h'; cases h'
/-- the entries of a dict, of an instance -/
def RepF (K : PySem.W.Frag) (H : Hp) {κ : Type} : List (κ × W) → List (κ × V) → Prop
  | [], us => us = []
  | (k, w) :: r, us => ∃ u q, us = (k, u) :: q ∧ Rep K H w u ∧ RepF K H r q
theorem RepF.grow {K : PySem.W.Frag} {H H' : Hp} (g : Grow H H') {κ : Type} : ∀ {ws : List (κ × W)} {us : List (κ × V)}, RepF K H ws us → RepF K H' ws us
  | [], _, h => h
  | (k, w) :: ws, us, h => by
    obtain ⟨u, r, e, a, b⟩ := h
    exact ⟨u, r, e, a.grow g, RepF.grow g b⟩
/-- an exception object, held -/
def ExT (cls : Value) (a : Addr) : HO := .ext fun h => ∃ (oe : Obj) (vs : Array Value), h.get? a = some oe ∧ Zc cls none oe ∧ oe.data = .fields vs
/-- the drawing state: its dict, the great cells, the cells -/
def DrwAt (H : Hp) (a g c : Addr) (gs cs : List Int) (rest turn : Int) : Prop :=
  H a = some (.dK [(.inr "great", .ref g), (.inr "cells", .ref c), (.inr "rest", .int rest), (.inr "turn", .int turn)]) ∧ H g = some (.lst (gs.map V.int)) ∧ H c = some (.lst (cs.map V.int)) ∧ g ≠ c ∧
    (∀ i ∈ gs, 0 ≤ i) ∧ (∀ i ∈ cs, 0 ≤ i) ∧ 0 ≤ rest ∧ 0 ≤ turn ∧ gs.length ≤ 63 ∧ cs.length ≤ 63
def RepO (K : PySem.W.Frag) (M : Mh) (H : Hp) (a : Addr) : MO → Prop
  | .lst ws => ∃ us, H a = some (.lst us) ∧ Reps K H ws us
  | .dct kvs => ∃ us, H a = some (.dK us) ∧ RepF K H kvs us
  | .ins C fs => ∃ dx us, H a = some (.ins C dx us) ∧ RepF K H fs us
  | .exc cls => H a = some (ExT cls a)
  | .drw n => (∃ g c gs cs rest turn, DrwAt H a g c gs cs rest turn ∧ M g = none ∧ M c = none ∧ turn + (n : Int) ≤ 1099511627776) ∧ ∀ b, (∃ m, M b = some (.drw m)) → b = a
structure Rel (K : PySem.W.Frag) (T : List (Addr × Str)) (M : Mh) (H : Hp) : Prop where
  ob : ∀ a o, M a = some o → RepO K M H a o
  tab : LamX.Tabs T H
section
variable {K : PySem.W.Frag} {T : List (Addr × Str)} {M M' : Mh} {H H' : Hp} {p : Addr} {o : MO} {ho : HO}
theorem RepO.there (r : RepO K M H p o) : ∃ u, H p = some u := by
  cases o with
  | lst ws => obtain ⟨us, e, _⟩ := r; exact ⟨_, e⟩
  | dct ws => obtain ⟨us, e, _⟩ := r; exact ⟨_, e⟩
  | ins C fs => obtain ⟨dx, us, e, _⟩ := r; exact ⟨_, e⟩
  | exc c => exact ⟨_, r⟩
  | drw n => obtain ⟨⟨g, c, gs, cs, rest, turn, d, _⟩, _⟩ := r; exact ⟨_, d.1⟩
theorem Rel.free (r : Rel K T M H) (h : H p = none) : M p = none := by
  cases q : M p with
  | none => rfl
  | some o =>
    obtain ⟨u, e⟩ := (r.ob p o q).there
    rw [h] at e; cases e
theorem Rel.sub (r : Rel K T M' H) (s : Sub M M') : Rel K T M H := by
  refine ⟨fun a o e => ?_, r.tab⟩
  have q := r.ob a o (s a o e)
  cases o with
  | lst ws => exact q
  | dct ws => exact q
  | ins C fs => exact q
  | exc c => exact q
  | drw n =>
    obtain ⟨⟨g, c, gs, cs, rest, turn, d, n1, n2, n3⟩, u⟩ := q
    exact ⟨⟨g, c, gs, cs, rest, turn, d, s.free n1, s.free n2, n3⟩, fun b ⟨m, e⟩ => u b ⟨m, s b _ e⟩⟩
theorem tabs_of {H H' : Hp} (t : LamX.Tabs T H) (k : ∀ b u, (∀ xs, u ≠ .lst xs) → (∀ xs, u ≠ .dK xs) → (∀ C dx fs, u ≠ .ins C dx fs) → H b = some u → H' b = some u) : LamX.Tabs T H' := fun q hq => by
  obtain ⟨ps, h1, h2, h3⟩ := t q hq
  refine ⟨ps, k _ _ (fun _ z => by cases z) (fun _ z => by cases z) (fun _ _ _ z => by cases z) h1, h2, fun pos cv hc => ?_⟩
  obtain ⟨c, e1, e2⟩ := h3 pos cv hc
  exact ⟨c, e1, k _ _ (fun _ z => by unfold LamX.CodeO at z; cases z) (fun _ z => by unfold LamX.CodeO at z; cases z) (fun _ _ _ z => by unfold LamX.CodeO at z; cases z) e2⟩
/-- what lies elsewhere stays as it is -/
theorem RepO.keep (g : Grow H H') (hM : ∀ a, M a = none → M' a = none) (hd : ∀ b, (∃ m, M' b = some (.drw m)) → ∃ m, M b = some (.drw m)) (k : ∀ b u, (b = p ∨ M b = none) → H b = some u → H' b = some u) (r : RepO K M H p o) : RepO K M' H' p o := by
  cases o with
  | lst ws => obtain ⟨us, e, q⟩ := r; exact ⟨us, k _ _ (.inl rfl) e, q.grow g⟩
  | dct ws => obtain ⟨us, e, q⟩ := r; exact ⟨us, k _ _ (.inl rfl) e, q.grow g⟩
  | ins C fs => obtain ⟨dx, us, e, q⟩ := r; exact ⟨dx, us, k _ _ (.inl rfl) e, q.grow g⟩
  | exc c => exact k _ _ (.inl rfl) r
  | drw n =>
    obtain ⟨⟨g, c, gs, cs, rest, turn, ⟨d1, d2, d3, d4⟩, n1, n2, n3⟩, u⟩ := r
    exact ⟨⟨g, c, gs, cs, rest, turn, ⟨k _ _ (.inl rfl) d1, k _ _ (.inr n1) d2, k _ _ (.inr n2) d3, d4⟩, hM _ n1, hM _ n2, n3⟩, fun b e => u b (hd b e)⟩
/-- something new, not in the map -/
theorem Rel.hid (r : Rel K T M H) (h : H p = none) : Rel K T M (upd H p ho) := by
  have kk : ∀ b u, H b = some u → upd H p ho b = some u := fun b u e => by rw [upd_ne (ne_of_none e h)]; exact e
  exact ⟨fun a o e => RepO.keep (Grow.new h) (fun _ z => z) (fun _ z => z) (fun b u _ e => kk b u e) (r.ob a o e), tabs_of r.tab fun b u _ _ _ e => kk b u e⟩
/-- a new thing -/
theorem Rel.newO (r : Rel K T M H) (h : H p = none) (nd : ∀ n, o ≠ .drw n) (q : RepO K (updM M p o) (upd H p ho) p o) : Rel K T (updM M p o) (upd H p ho) := by
  have hn := r.free h
  have kk : ∀ b u, H b = some u → upd H p ho b = some u := fun b u e => by rw [upd_ne (ne_of_none e h)]; exact e
  refine ⟨fun a o' e => ?_, tabs_of r.tab fun b u _ _ _ e => kk b u e⟩
  by_cases z : a = p
  · subst z
    rw [updM_same] at e; cases e
    exact q
  · rw [updM_ne z] at e
    have q0 := r.ob a o' e
    cases o' with
    | lst ws => exact RepO.keep (M := M) (M' := M) (Grow.new h) (fun _ z => z) (fun _ z => z) (fun b u _ e => kk b u e) q0
    | dct ws => exact RepO.keep (M := M) (M' := M) (Grow.new h) (fun _ z => z) (fun _ z => z) (fun b u _ e => kk b u e) q0
    | ins C fs => exact RepO.keep (M := M) (M' := M) (Grow.new h) (fun _ z => z) (fun _ z => z) (fun b u _ e => kk b u e) q0
    | exc c => exact RepO.keep (M := M) (M' := M) (Grow.new h) (fun _ z => z) (fun _ z => z) (fun b u _ e => kk b u e) q0
    | drw n =>
      obtain ⟨⟨g, c, gs, cs, rest, turn, ⟨d1, d2, d3, d4⟩, n1, n2, n3⟩, u⟩ := q0
      refine ⟨⟨g, c, gs, cs, rest, turn, ⟨kk _ _ d1, kk _ _ d2, kk _ _ d3, d4⟩, ?_, ?_, n3⟩, fun b ⟨m, e⟩ => ?_⟩
      · rw [updM_ne (ne_of_none d2 h)]; exact n1
      · rw [updM_ne (ne_of_none d3 h)]; exact n2
      · by_cases zb : b = p
        · subst zb; rw [updM_same] at e; exact absurd (Option.some.inj e) (nd _)
        · rw [updM_ne zb] at e; exact u b ⟨m, e⟩
theorem Rel.newL {ws : List W} {us : List V} (r : Rel K T M H) (h : H p = none) (q : Reps K H ws us) : Rel K T (updM M p (.lst ws)) (upd H p (.lst us)) :=
  r.newO h (fun _ z => by cases z) ⟨us, upd_same, q.grow (Grow.new h)⟩
theorem Rel.newD {ws : List (Key × W)} {us : List (Key × V)} (r : Rel K T M H) (h : H p = none) (q : RepF K H ws us) : Rel K T (updM M p (.dct ws)) (upd H p (.dK us)) :=
  r.newO h (fun _ z => by cases z) ⟨us, upd_same, q.grow (Grow.new h)⟩
/-- a thing is written -/
theorem Rel.setO {o₀ : MO} {h₀ : HO} (r : Rel K T M H) (hp : M p = some o₀) (n₀ : ∀ n, o₀ ≠ .drw n) (h : H p = some h₀) (mu : Mut (some h₀)) (nt : (∃ xs, h₀ = .lst xs) ∨ (∃ xs, h₀ = .dK xs) ∨ ∃ C dx fs, h₀ = .ins C dx fs) (nd : ∀ n, o ≠ .drw n) (q : RepO K (updM M p o) (upd H p ho) p o) : Rel K T (updM M p o) (upd H p ho) := by
  have g : Grow H (upd H p ho) := Grow.set h mu
  have kk : ∀ b u, b ≠ p → H b = some u → upd H p ho b = some u := fun b u z e => by rw [upd_ne z]; exact e
  refine ⟨fun a o' e => ?_, tabs_of r.tab fun b u n1 n2 n3 e => kk b u (fun z => by
    subst z; rw [h] at e; cases e
    rcases nt with ⟨xs, z⟩ | ⟨xs, z⟩ | ⟨C, dx, fs, z⟩
    · exact n1 _ z
    · exact n2 _ z
    · exact n3 _ _ _ z) e⟩
  by_cases z : a = p
  · subst z
    rw [updM_same] at e; cases e
    exact q
  · rw [updM_ne z] at e
    refine RepO.keep (M := M) (M' := updM M p o) g (fun b n => ?_) (fun b ⟨m, e⟩ => ?_) (fun b u hb e => kk b u ?_ e) (r.ob a o' e)
    · rw [updM_ne (fun z => by subst z; rw [hp] at n; cases n)]; exact n
    · by_cases zb : b = p
      · subst zb; rw [updM_same] at e; exact absurd (Option.some.inj e) (nd _)
      · rw [updM_ne zb] at e; exact ⟨m, e⟩
    · rcases hb with hb | hb
      · subst hb; exact z
      · exact fun z => by subst z; rw [hp] at hb; cases hb
theorem Rel.setL {ws ws' : List W} {us us' : List V} (r : Rel K T M H) (hp : M p = some (.lst ws)) (h : H p = some (.lst us)) (q : Reps K H ws' us') : Rel K T (updM M p (.lst ws')) (upd H p (.lst us')) :=
  r.setO hp (fun _ z => by cases z) h trivial (.inl ⟨_, rfl⟩) (fun _ z => by cases z) ⟨us', upd_same, q.grow (Grow.set h trivial)⟩
theorem Rel.setD {ws ws' : List (Key × W)} {us us' : List (Key × V)} (r : Rel K T M H) (hp : M p = some (.dct ws)) (h : H p = some (.dK us)) (q : RepF K H ws' us') : Rel K T (updM M p (.dct ws')) (upd H p (.dK us')) :=
  r.setO hp (fun _ z => by cases z) h trivial (.inr (.inl ⟨_, rfl⟩)) (fun _ z => by cases z) ⟨us', upd_same, q.grow (Grow.set h trivial)⟩
/-- hidden behind the drawing state -/
def Hid (M : Mh) (H : Hp) (a : Addr) : Prop := ∃ s g c gs cs rest turn, (∃ m, M s = some (.drw m)) ∧ DrwAt H s g c gs cs rest turn ∧ (a = g ∨ a = c)
def Own (M : Mh) (H : Hp) (a : Addr) : Prop := M a ≠ none ∨ Hid M H a
/-- a step: what the map does not own is kept -/
structure Ext (M : Mh) (H : Hp) (M' : Mh) (H' : Hp) : Prop where
  grow : Grow H H'
  fr : ∀ a u, Mut (some u) → H a = some u → ¬ Own M H a → ¬ Own M' H' a
  keep : ∀ a u, Mut (some u) → H a = some u → ¬ Own M H a → H' a = some u
theorem Ext.refl : Ext M H M H := ⟨Grow.refl, fun _ _ _ _ h => h, fun _ _ _ h _ => h⟩
theorem Ext.trans {M2 : Mh} {H2 : Hp} (x : Ext M H M' H') (y : Ext M' H' M2 H2) : Ext M H M2 H2 :=
  ⟨x.grow.trans y.grow, fun a u m h n => y.fr a u m (x.keep a u m h n) (x.fr a u m h n), fun a u m h n => y.keep a u m (x.keep a u m h n) (x.fr a u m h n)⟩
theorem Own.sub (s : Sub M M') {a : Addr} (h : Own M H a) : Own M' H a := by
  rcases h with h | ⟨t, g, c, gs, cs, r, u, e, d, z⟩
  · left; intro z
    exact h (s.free z)
  · exact .inr ⟨t, g, c, gs, cs, r, u, ⟨_, s _ _ e.choose_spec⟩, d, z⟩
theorem Ext.sub {M2 : Mh} (x : Ext M H M' H') (s : Sub M2 M') : Ext M H M2 H' := ⟨x.grow, fun a u m h n z => x.fr a u m h n (z.sub s), x.keep⟩
theorem DrwAt.same {a g c g' c' : Addr} {gs cs gs' cs' : List Int} {r t r' t' : Int} (d : DrwAt H a g c gs cs r t) (d' : DrwAt H' a g' c' gs' cs' r' t') (e : H a = H' a) : g' = g ∧ c' = c := by
  have z := d.1
  rw [e, d'.1] at z
  have z := HO.dK.inj (Option.some.inj z)
  simp only [List.cons.injEq, Prod.mk.injEq, V.ref.injEq, true_and] at z
  exact ⟨z.1, z.2.1⟩
/-- nothing that was there comes to be owned by a new thing -/
theorem Own.back (r : Rel K T M H) (h : H p = none) (hM : ∀ a, a ≠ p → M' a ≠ none → M a ≠ none) (hd : ∀ s, (∃ m, M' s = some (.drw m)) → ∃ m, M s = some (.drw m)) {a : Addr} (ha : a ≠ p) (o : Own M' (upd H p ho) a) : Own M H a := by
  rcases o with o | ⟨s, g, c, gs, cs, rest, turn, e, d, z⟩
  · exact .inl (hM a ha o)
  · have q := hd s e
    obtain ⟨⟨g', c', gs', cs', rest', turn', d', n1, n2⟩, u⟩ := r.ob s _ q.choose_spec
    have es : s ≠ p := fun z => by subst z; rw [d'.1] at h; cases h
    obtain ⟨e1, e2⟩ := d'.same d (by rw [upd_ne es])
    subst e1; subst e2
    exact .inr ⟨s, _, _, _, _, _, _, q, d', z⟩
theorem Ext.hid (r : Rel K T M H) (h : H p = none) : Ext M H M (upd H p ho) := by
  have kk : ∀ b u, H b = some u → upd H p ho b = some u := fun b u e => by rw [upd_ne (ne_of_none e h)]; exact e
  exact ⟨Grow.new h, fun a u _ n ow z => ow (Own.back r h (fun _ _ z => z) (fun _ z => z) (fun e => by subst e; rw [h] at n; cases n) z), fun a u _ e _ => kk a _ e⟩
theorem Ext.newO (r : Rel K T M H) (h : H p = none) (nd : ∀ n, o ≠ .drw n) : Ext M H (updM M p o) (upd H p ho) := by
  have kk : ∀ b u, H b = some u → upd H p ho b = some u := fun b u e => by rw [upd_ne (ne_of_none e h)]; exact e
  refine ⟨Grow.new h, fun a u _ n ow z => ow (Own.back r h (fun b hb z => by rw [updM_ne hb] at z; exact z) (fun b ⟨m, z⟩ => ?_) (fun e => by subst e; rw [h] at n; cases n) z), fun a u _ e _ => kk a _ e⟩
  · by_cases zb : b = p
    · subst zb; rw [updM_same] at z; exact absurd (Option.some.inj z) (nd _)
    · rw [updM_ne zb] at z; exact ⟨m, z⟩
theorem Ext.newL {ws : List W} {us : List V} (r : Rel K T M H) (h : H p = none) : Ext M H (updM M p (.lst ws)) (upd H p (.lst us)) := Ext.newO r h fun _ z => by cases z
theorem Ext.newD {ws : List (Key × W)} {us : List (Key × V)} (r : Rel K T M H) (h : H p = none) : Ext M H (updM M p (.dct ws)) (upd H p (.dK us)) := Ext.newO r h fun _ z => by cases z
theorem Ext.setO {o₀ : MO} {h₀ : HO} (r : Rel K T M H) (hp : M p = some o₀) (n₀ : ∀ n, o₀ ≠ .drw n) (h : H p = some h₀) (mu : Mut (some h₀)) (nd : ∀ n, o ≠ .drw n) : Ext M H (updM M p o) (upd H p ho) := by
  refine ⟨Grow.set h mu, fun a u _ n ow z => ow ?_, fun a u _ e ow => ?_⟩
  · rcases z with z | ⟨s, g, c, gs, cs, rest, turn, e, d, z⟩
    · by_cases za : a = p
      · subst za; left; rw [hp]; simp
      · rw [updM_ne za] at z; exact .inl z
    · obtain ⟨m, e⟩ := e
      have es : s ≠ p := fun z => by subst z; rw [updM_same] at e; exact nd _ (Option.some.inj e)
      rw [updM_ne es] at e
      obtain ⟨⟨g', c', gs', cs', rest', turn', d', n1, n2⟩, u⟩ := r.ob s _ e
      obtain ⟨e1, e2⟩ := d'.same d (by rw [upd_ne es])
      subst e1; subst e2
      exact .inr ⟨s, _, _, _, _, _, _, ⟨m, e⟩, d', z⟩
  · rw [upd_ne (fun z => by subst z; exact ow (.inl (by rw [hp]; simp)))]
    exact e
theorem Ext.setL {ws ws' : List W} {us us' : List V} (r : Rel K T M H) (hp : M p = some (.lst ws)) (h : H p = some (.lst us)) : Ext M H (updM M p (.lst ws')) (upd H p (.lst us')) := Ext.setO r hp (fun _ z => by cases z) h trivial fun _ z => by cases z
theorem Ext.setD {ws ws' : List (Key × W)} {us us' : List (Key × V)} (r : Rel K T M H) (hp : M p = some (.dct ws)) (h : H p = some (.dK us)) : Ext M H (updM M p (.dct ws')) (upd H p (.dK us')) := Ext.setO r hp (fun _ z => by cases z) h trivial fun _ z => by cases z
end
/-! ### readings upon plain values -/
abbrev MEnv := List (Option W)
abbrev MX := Addr → Mh → Prop
abbrev MK := W → Mh → Prop
abbrev ME := MX → MEnv → Mh → MK → Prop
abbrev MT := MX → MEnv → Mh → (Bool → Mh → Prop) → Prop
abbrev MA := MX → MEnv → Mh → (List W → Mh → Prop) → Prop
structure MEnds where
  nx : MEnv → Mh → Prop
  rt : MK
  bk : MEnv → Mh → Prop := fun _ _ => False
  ct : MEnv → Mh → Prop := fun _ _ => False
abbrev MS := MX → MEnds → MEnv → Mh → Prop
abbrev MSp := MX → List W → Mh → MK → Prop
def RepE (K : PySem.W.Frag) (H : Hp) (e : MEnv) (σ : L2.St) : Prop := e.length = σ.length ∧ ∀ (i : Nat) (w : W), e[i]? = some (some w) → ∃ v, σ[i]? = some (some v) ∧ Rep K H w v
theorem RepE.grow {K : PySem.W.Frag} {H H' : Hp} {e : MEnv} {σ : L2.St} (g : Grow H H') (h : RepE K H e σ) : RepE K H' e σ :=
  ⟨h.1, fun i w q => let ⟨v, a, b⟩ := h.2 i w q; ⟨v, a, b.grow g⟩⟩
theorem RepE.set {K : PySem.W.Frag} {H : Hp} {e : MEnv} {σ : L2.St} {w : W} {v : V} (h : RepE K H e σ) (r : Rep K H w v) (i : Nat) : RepE K H (e.set i (some w)) (σ.set i (some v)) := by
  refine ⟨by rw [List.length_set, List.length_set]; exact h.1, fun j x q => ?_⟩
  by_cases hj : i = j
  · subst hj
    by_cases hi : i < e.length
    · rw [List.getElem?_set_self hi] at q
      cases q
      exact ⟨v, by rw [List.getElem?_set_self (by rw [← h.1]; exact hi)], r⟩
    · rw [List.getElem?_eq_none (by rw [List.length_set]; omega)] at q
      cases q
  · rw [List.getElem?_set_ne hj] at q
    obtain ⟨u, a, b⟩ := h.2 j x q
    exact ⟨u, by rw [List.getElem?_set_ne hj]; exact a, b⟩
structure Base (K : PySem.W.Frag) (T : List (Addr × Str)) (Wx : WX) (σ : L2.St) (H : Hp) (RX : MX) (e : MEnv) (M : Mh) : Prop where
  env : RepE K H e σ
  rel : Rel K T M H
  exc : ∀ C M' σ' H', Ext M H M' H' → Rel K T M' H' → RX C M' → Wx (.ref C) none σ' H'
section
variable {K : PySem.W.Frag} {T : List (Addr × Str)} {Wx : WX} {σ : L2.St} {H H' : Hp} {RX : MX} {e : MEnv} {M M' : Mh}
theorem Base.next (b : Base K T Wx σ H RX e M) (x : Ext M H M' H') (r : Rel K T M' H') : Base K T Wx σ H' RX e M' :=
  ⟨b.env.grow x.grow, r, fun C M2 σ2 H2 x2 r2 q => b.exc C M2 σ2 H2 (x.trans x2) r2 q⟩
end
def Lf (K : PySem.W.Frag) (T : List (Addr × Str)) (Wx : WX) (m : ME) : TE := fun σ H Q => ∃ RX e M R, Base K T Wx σ H RX e M ∧ m RX e M R ∧ ∀ w M' v H', Ext M H M' H' → Rel K T M' H' → Rep K H' w v → R w M' → Q v H'
def LfT (K : PySem.W.Frag) (T : List (Addr × Str)) (Wx : WX) (m : MT) : TT := fun σ H Q => ∃ RX e M R, Base K T Wx σ H RX e M ∧ m RX e M R ∧ ∀ b M' H', Ext M H M' H' → Rel K T M' H' → R b M' → Q b H'
structure EndsOk (K : PySem.W.Frag) (T : List (Addr × Str)) (M : Mh) (H : Hp) (DM : MEnds) (D : Ends) : Prop where
  nx : ∀ e' M' σ' H', Ext M H M' H' → RepE K H' e' σ' → Rel K T M' H' → DM.nx e' M' → D.nx σ' H'
  rt : ∀ w M' v H', Ext M H M' H' → Rel K T M' H' → Rep K H' w v → DM.rt w M' → D.rt v H'
  bk : ∀ e' M' σ' H', Ext M H M' H' → RepE K H' e' σ' → Rel K T M' H' → DM.bk e' M' → D.bk σ' H'
  ct : ∀ e' M' σ' H', Ext M H M' H' → RepE K H' e' σ' → Rel K T M' H' → DM.ct e' M' → D.ct σ' H'
theorem EndsOk.next {K : PySem.W.Frag} {T : List (Addr × Str)} {M M' : Mh} {H H' : Hp} {DM : MEnds} {D : Ends} (k : EndsOk K T M H DM D) (x : Ext M H M' H') : EndsOk K T M' H' DM D :=
  ⟨fun e M2 σ H2 y => k.nx e M2 σ H2 (x.trans y), fun w M2 v H2 y => k.rt w M2 v H2 (x.trans y), fun e M2 σ H2 y => k.bk e M2 σ H2 (x.trans y), fun e M2 σ H2 y => k.ct e M2 σ H2 (x.trans y)⟩
def LfS (K : PySem.W.Frag) (T : List (Addr × Str)) (Wx : WX) (m : MS) : TS := fun D σ H => ∃ RX e M DM, Base K T Wx σ H RX e M ∧ m RX DM e M ∧ EndsOk K T M H DM D
/-- a def's promise -/
def LfSp (K : PySem.W.Frag) (T : List (Addr × Str)) (n : Nat) (sp : MSp) : Sp := fun vs H Q E => ∃ RX ws M R, ws.length = n ∧ Reps K H ws vs ∧ Rel K T M H ∧ sp RX ws M R ∧
  (∀ w M' v H', Ext M H M' H' → Rel K T M' H' → Rep K H' w v → R w M' → Q v H') ∧ ∀ C M' H', Ext M H M' H' → Rel K T M' H' → RX C M' → E (.ref C) none H'
section
variable {X : Cx}
theorem PE.wk {e : Expr} {t t' : TE} (h : PE X e t) (w : ∀ σ H Q, t' σ H Q → t σ H Q) : PE X e t' := ⟨fun pins s σ H Q I q => h.run pins s σ H Q I (w _ _ _ q)⟩
theorem PT.wk {e : Expr} {t t' : TT} (h : PT X e t) (w : ∀ σ H Q, t' σ H Q → t σ H Q) : PT X e t' := ⟨fun pins s σ H Q I q => h.run pins s σ H Q I (w _ _ _ q)⟩
theorem PA.wk {e : List Expr} {t t' : TA} (h : PA X e t) (w : ∀ σ H Q, t' σ H Q → t σ H Q) : PA X e t' := ⟨fun pos pins s σ H Q I q => h.run pos pins s σ H Q I (w _ _ _ q)⟩
theorem PS.wk {e : Stmt} {t t' : TS} (h : PS X e t) (w : ∀ D σ H, t' D σ H → t D σ H) : PS X e t' := ⟨fun pins s σ H D I q => h.run pins s σ H D I (w _ _ _ q)⟩
theorem PSs.wk {e : List Stmt} {t t' : TS} (h : PSs X e t) (w : ∀ D σ H, t' D σ H → t D σ H) : PSs X e t' := ⟨fun pins s σ H D I q => h.run pins s σ H D I (w _ _ _ q)⟩
end
end ML


set_option Elab.async false
set_option linter.all false
set_option maxRecDepth 100000
set_option maxHeartbeats 2000000
namespace ML
open PySem PySem.Spec PyProof.Rows L2
/-! ### readings of expressions -/
def mVar (i : Nat) : ME := fun _ e M R => match e[i]? with
  | some (some w) => R w M
  | _ => False
def mC (w : W) : ME := fun _ _ M R => R w M
def mArgs : List ME → MA
  | [] => fun _ _ M R => R [] M
  | m :: ms => fun RX e M R => m RX e M fun w M1 => mArgs ms RX e M1 fun ws M2 => R (w :: ws) M2
/-- the chain of readings of an argument list -/
def tCh (K : PySem.W.Frag) (T : List (Addr × Str)) (Wx : WX) : List ME → TA
  | [] => tNil
  | m :: ms => tCons (Lf K T Wx m) (tCh K T Wx ms)
section
variable {K : PySem.W.Frag} {T : List (Addr × Str)} {Wx : WX} {σ : L2.St} {H : Hp} {RX : MX} {e : MEnv} {M : Mh}
theorem chain_ok : ∀ {ms : List ME} {σ : L2.St} {H : Hp} {M : Mh} {R : List W → Mh → Prop} {Q : List V → Hp → Prop}, Base K T Wx σ H RX e M → mArgs ms RX e M R →
    (∀ ws M' vs H', vs.length = ms.length → Ext M H M' H' → Rel K T M' H' → Reps K H' ws vs → R ws M' → Q vs H') → tCh K T Wx ms σ H Q
  | [], σ, H, M, R, Q, b, h, q => q [] M [] H rfl Ext.refl b.rel Reps.nil h
  | m :: ms, σ, H, M, R, Q, b, h, q => by
    show Lf K T Wx m σ H fun x H1 => tCh K T Wx ms σ H1 fun xs H2 => Q (x :: xs) H2
    refine ⟨RX, e, M, _, b, h, fun w M1 v H1 x1 r1 rp1 h1 => ?_⟩
    refine chain_ok (b.next x1 r1) h1 fun ws M2 vs H2 hl x2 r2 rp2 h2 => ?_
    exact q (w :: ws) M2 (v :: vs) H2 (by rw [List.length_cons, List.length_cons, hl]) (x1.trans x2) r2 (Reps.cons (rp1.grow x2.grow) rp2) h2
/-- one, two parts -/
theorem one_ok {m : ME} {k : W → Mh → Prop} {q : V → Hp → Prop} (b : Base K T Wx σ H RX e M) (h : m RX e M k) (hk : ∀ w M' v H', Ext M H M' H' → Rel K T M' H' → Rep K H' w v → k w M' → q v H') : Lf K T Wx m σ H q := ⟨RX, e, M, k, b, h, hk⟩
theorem two_ok {ma mb : ME} {k : W → W → Mh → Prop} {q : V → V → Hp → Prop} (b : Base K T Wx σ H RX e M) (h : ma RX e M fun x M1 => mb RX e M1 fun y M2 => k x y M2)
    (hk : ∀ x y M' v u H', Ext M H M' H' → Rel K T M' H' → Rep K H' x v → Rep K H' y u → k x y M' → q v u H') : Lf K T Wx ma σ H fun v H1 => Lf K T Wx mb σ H1 fun u H2 => q v u H2 := by
  refine one_ok b h fun x M1 v H1 x1 r1 p1 h1 => ?_
  exact one_ok (b.next x1 r1) h1 fun y M2 u H2 x2 r2 p2 h2 => hk x y M2 v u H2 (x1.trans x2) r2 (p1.grow x2.grow) p2 h2
end
section
variable {X : Cx} {T : List (Addr × Str)} {Wx : WX} {pos : Pos}
theorem me_var (i : Nat) {x : Str} (hN : X.N[i]? = some x := by rfl) (hv : Vis X.env.scope x := by first | exact Or.inl rfl | exact Or.inr (Or.inl rfl) | exact Or.inr (Or.inr rfl)) (hd : (x == ("__debug__" : Str)) = false := by decide)
    (hcd : (x == ("__classdict__" : Str)) = false := by decide) : PE X (.Name x pos) (Lf X.K T Wx (mVar i)) := by
  refine PE.wk (pe_var hN hv hd hcd) fun σ H Q h => ?_
  obtain ⟨RX, e, M, R, b, h, k⟩ := h
  unfold mVar at h
  split at h
  · rename_i w hw
    obtain ⟨v, h1, h2⟩ := b.env.2 i w hw
    exact ⟨v, h1, k w M v H Ext.refl b.rel h2 h⟩
  · exact h.elim
/-- a value that leans on no heap -/
theorem me_of {ex : Expr} {v : V} {w : W} (h : PE X ex (tC v)) (r : ∀ H, Rep X.K H w v) : PE X ex (Lf X.K T Wx (mC w)) := by
  refine PE.wk h fun σ H Q h => ?_
  obtain ⟨RX, e, M, R, b, h, k⟩ := h
  exact k w M v H Ext.refl b.rel (r H) h
theorem me_int {i : Int} {j} : PE X (.Constant (.int i) j pos) (Lf X.K T Wx (mC (.int i))) := me_of pe_int fun _ => by simp only [Rep]
theorem me_bl {c : Bool} {j} : PE X (.Constant (.bool c) j pos) (Lf X.K T Wx (mC (.bl c))) := me_of pe_bl fun _ => by simp only [Rep]
theorem me_non {j} : PE X (.Constant .none j pos) (Lf X.K T Wx (mC .non)) := me_of pe_non fun _ => by simp only [Rep]
theorem me_str {x : Str} {j} : PE X (.Constant (.str x) j pos) (Lf X.K T Wx (mC (.str x))) := me_of pe_str fun _ => by simp only [Rep]
theorem me_glob {x : Str} {v : V} {w : W} {u : Value} (hm : X.mg x = some u) (r : RelV v u) (rw' : ∀ H, Rep X.K H w v) (hg : Gl X x := by rfl) (hd : (x == ("__debug__" : Str)) = false := by decide) : PE X (.Name x pos) (Lf X.K T Wx (mC w)) := me_of (pe_glob hg hm r hd) rw'
theorem me_bltn {x : Str} {n : String} (hm : X.mg x = none) (hg : Gl X x := by rfl) (hv : bootBuiltins x = some (.type n) := by decide +kernel) (hn : x ≠ "__name__" := by decide) (hd : (x == ("__debug__" : Str)) = false := by decide) : PE X (.Name x pos) (Lf X.K T Wx (mC (.ty n))) :=
  me_of (pe_bltn (v := .ty n) hg hm hv rfl hn hd) fun _ => by simp only [Rep]
/-! arguments, displays -/
theorem ma_nil : PA X [] (tCh X.K T Wx []) := pa_nil
theorem ma_cons {e : Expr} {es : List Expr} {m : ME} {ms : List ME} (ha : PE X e (Lf X.K T Wx m)) (hr : PA X es (tCh X.K T Wx ms)) (hs : starEach (e :: es) X.env = (false, eval e X.env) :: starEach es X.env := by rfl) : PA X (e :: es) (tCh X.K T Wx (m :: ms)) := pa_cons ha hr hs
def mTup (ms : List ME) : ME := fun RX e M R => mArgs ms RX e M fun ws M1 => R (.tup ws) M1
def mLst (ms : List ME) : ME := fun RX e M R => mArgs ms RX e M fun ws M1 => ∀ p, M1 p = none → R (.ref p) (updM M1 p (.lst ws))
theorem small_line {n : Nat} (h : n ≤ 1000) : n ≤ sizeLine := Nat.le_trans h (by decide)
theorem me_tup {es : List Expr} {ms : List ME} {x1} (h : PA X es (tCh X.K T Wx ms)) (hl : ms.length ≤ 1000 := by exact Nat.le_of_ble_eq_true rfl) : PE X (.Tuple es x1 pos) (Lf X.K T Wx (mTup ms)) := by
  refine PE.wk (pe_tup h) fun σ H Q h => ?_
  obtain ⟨RX, e, M, R, b, h, k⟩ := h
  refine chain_ok b h fun ws M1 vs H1 hz x1 r1 p1 h1 => ⟨by rw [hz]; exact small_line hl, fun p hp => ?_⟩
  exact k _ M1 _ _ (x1.trans (Ext.hid r1 hp)) (r1.hid hp) (by simp only [Rep]; exact ⟨p, vs, rfl, .inl (.inl upd_same), p1.grow (Grow.new hp)⟩) h1
theorem me_lst {es : List Expr} {ms : List ME} (h : PA X es (tCh X.K T Wx ms)) (hl : ms.length ≤ 1000 := by exact Nat.le_of_ble_eq_true rfl) : PE X (.List es pos) (Lf X.K T Wx (mLst ms)) := by
  refine PE.wk (pe_lst h) fun σ H Q h => ?_
  obtain ⟨RX, e, M, R, b, h, k⟩ := h
  refine chain_ok b h fun ws M1 vs H1 hz x1 r1 p1 h1 => ⟨by rw [hz]; exact small_line hl, fun p hp => ?_⟩
  exact k _ _ _ _ (x1.trans (Ext.newL r1 hp)) (r1.newL hp p1) (by simp only [Rep]) (h1 p (r1.free hp))
/-! arithmetic upon ints -/
def mOp (f : W → W → Mh → MK → Prop) (ma mb : ME) : ME := fun RX e M R => ma RX e M fun x M1 => mb RX e M1 fun y M2 => f x y M2 R
/-- an operator by values -/
def OpM (X : Cx) (T : List (Addr × Str)) (r : R2) (f : W → W → Mh → MK → Prop) : Prop :=
  ∀ x y M R v u H Q, Rel X.K T M H → Rep X.K H x v → Rep X.K H y u → f x y M R → (∀ w M' v' H', Ext M H M' H' → Rel X.K T M' H' → Rep X.K H' w v' → R w M' → Q v' H') → r v u H Q
theorem me_op {a b : Expr} {ma mb : ME} {op : Operator} {r : R2} {f : W → W → Mh → MK → Prop} (ho : OpR X (binaryOp op) r) (hf : OpM X T r f) (ha : PE X a (Lf X.K T Wx ma)) (hb : PE X b (Lf X.K T Wx mb)) : PE X (.BinOp a op b pos) (Lf X.K T Wx (mOp f ma mb)) := by
  refine PE.wk (pe_op ho ha hb) fun σ H Q h => ?_
  obtain ⟨RX, e, M, R, b, h, k⟩ := h
  exact two_ok b h fun x y M2 v u H2 x2 r2 p1 p2 h2 => hf x y M2 R v u H2 Q r2 p1 p2 h2 fun w M' v' H' x3 => k w M' v' H' (x2.trans x3)
theorem me_cmp {a b : Expr} {ma mb : ME} {op : CmpOp} {r : R2} {f : W → W → Mh → MK → Prop} (ho : OpR X (compareOp op) r) (hf : OpM X T r f) (ha : PE X a (Lf X.K T Wx ma)) (hb : PE X b (Lf X.K T Wx mb)) (hm : behindInMarks op b = false := by rfl) : PE X (.Compare a [op] [b] pos) (Lf X.K T Wx (mOp f ma mb)) := by
  refine PE.wk (pe_cmpR ho ha hb hm) fun σ H Q h => ?_
  obtain ⟨RX, e, M, R, b, h, k⟩ := h
  exact two_ok b h fun x y M2 v u H2 x2 r2 p1 p2 h2 => hf x y M2 R v u H2 Q r2 p1 p2 h2 fun w M' v' H' x3 => k w M' v' H' (x2.trans x3)
def fII (g : Int → Int → W) : W → W → Mh → MK → Prop := fun x y M R => match x, y with
  | .int i, .int j => R (g i j) M
  | _, _ => False
def fIIc (C : Int → Int → Prop) (g : Int → Int → W) : W → W → Mh → MK → Prop := fun x y M R => match x, y with
  | .int i, .int j => C i j ∧ R (g i j) M
  | _, _ => False
theorem fII_of {g : Int → Int → V} {g' : Int → Int → W} (hg : ∀ i j H, Rep X.K H (g' i j) (g i j)) : OpM X T (rI0 g) (fII g') := by
  intro x y M R v u H Q r p1 p2 h k
  unfold fII at h
  split at h
  · simp only [Rep] at p1 p2
    exact ⟨_, _, p1, p2, k _ M _ H Ext.refl r (hg _ _ H) h⟩
  · exact h.elim
theorem fIIc_of {C : Int → Int → Prop} {g : Int → Int → V} {g' : Int → Int → W} (hg : ∀ i j H, Rep X.K H (g' i j) (g i j)) : OpM X T (rI C g) (fIIc C g') := by
  intro x y M R v u H Q r p1 p2 h k
  unfold fIIc at h
  split at h
  · simp only [Rep] at p1 p2
    exact ⟨_, _, p1, p2, h.1, k _ M _ H Ext.refl r (hg _ _ H) h.2⟩
  · exact h.elim
def fSub := fII fun i j => .int (i - j)
def fMul := fIIc CMul fun i j => .int (i * j)
def fDiv := fIIc CDiv fun i j => .int (i / j)
def fMod := fIIc (fun _ j => 0 < j) fun i j => .int (i % j)
def fPow := fIIc CPow fun i j => .int (i ^ j.toNat)
def fLt := fII fun i j => .bl (decide (i < j))
def fLe := fII fun i j => .bl (decide (i ≤ j))
def fGt := fII fun i j => .bl (decide (j < i))
def fGe := fII fun i j => .bl (decide (j ≤ i))
theorem mo_sub : OpM X T (rI0 fun i j => .int (i - j)) fSub := fII_of fun _ _ _ => by simp only [Rep]
theorem mo_mul : OpM X T (rI CMul fun i j => .int (i * j)) fMul := fIIc_of fun _ _ _ => by simp only [Rep]
theorem mo_div : OpM X T (rI CDiv fun i j => .int (i / j)) fDiv := fIIc_of fun _ _ _ => by simp only [Rep]
theorem mo_mod : OpM X T (rI (fun _ j => 0 < j) fun i j => .int (i % j)) fMod := fIIc_of fun _ _ _ => by simp only [Rep]
theorem mo_pow : OpM X T (rI CPow fun i j => .int (i ^ j.toNat)) fPow := fIIc_of fun _ _ _ => by simp only [Rep]
theorem mo_lt : OpM X T (rI0 fun i j => .bl (decide (i < j))) fLt := fII_of fun _ _ _ => by simp only [Rep]
theorem mo_le : OpM X T (rI0 fun i j => .bl (decide (i ≤ j))) fLe := fII_of fun _ _ _ => by simp only [Rep]
theorem mo_gt : OpM X T (rI0 fun i j => .bl (decide (j < i))) fGt := fII_of fun _ _ _ => by simp only [Rep]
theorem mo_ge : OpM X T (rI0 fun i j => .bl (decide (j ≤ i))) fGe := fII_of fun _ _ _ => by simp only [Rep]
/-- + of ints, tuples, lists, texts -/
def fAdd : W → W → Mh → MK → Prop := fun x y M R => match x, y with
  | .int i, .int j => R (.int (i + j)) M
  | .tup xs, .tup ys => xs.length + ys.length ≤ sizeLine ∧ R (.tup (xs ++ ys)) M
  | .str a, .str b => a.length + b.length ≤ sizeLine ∧ R (.str (a ++ b)) M
  | .ref a, .ref b => match M a, M b with
    | some (.lst xs), some (.lst ys) => xs.length + ys.length ≤ sizeLine ∧ ∀ p, M p = none → R (.ref p) (updM M p (.lst (xs ++ ys)))
    | _, _ => False
  | _, _ => False
def rAddM (K : PySem.W.Frag) : R2 := fun x y H Q => (rI0 fun i j => .int (i + j)) x y H Q ∨ rCatA K x y H Q ∨ (fun x y H Q => ∃ i j, x = V.str i ∧ y = V.str j ∧ i.length + j.length ≤ sizeLine ∧ Q (V.str (i ++ j)) H : R2) x y H Q ∨ rCat x y H Q
theorem op_addM : OpR X (binaryOp .Add) (rAddM X.K) := op_add.or (op_catA.or (op_add_str.or op_cat))
theorem mo_add : OpM X T (rAddM X.K) fAdd := by
  intro x y M R v u H Q r p1 p2 h k
  unfold fAdd at h
  split at h
  · simp only [Rep] at p1 p2
    exact .inl ⟨_, _, p1, p2, k _ M _ H Ext.refl r (by simp only [Rep]) h⟩
  · rename_i xs ys
    simp only [Rep] at p1 p2
    obtain ⟨p, us, rfl, s1, q1⟩ := p1
    obtain ⟨p', us', rfl, s2, q2⟩ := p2
    refine .inr (.inl ⟨p, p', us, us', rfl, rfl, s1, s2, by rw [q1.length, q2.length]; exact h.1, fun z => ?_, fun _ z => ?_, fun _ _ a ha => ?_⟩)
    · subst z
      have : xs = [] := by have := q1.length; simpa using this.symm
      subst this
      exact k _ M _ H Ext.refl r (by simp only [Rep]; exact ⟨p', us', rfl, s2, q2⟩) h.2
    · subst z
      have : ys = [] := by have := q2.length; simpa using this.symm
      subst this
      exact k _ M _ H Ext.refl r (by simp only [Rep]; exact ⟨p, us, rfl, s1, by rw [List.append_nil]; exact q1⟩) h.2
    · exact k _ M _ _ (Ext.hid r ha) (r.hid ha) (by simp only [Rep]; exact ⟨a, _, rfl, .inl (.inl upd_same), (q1.append q2).grow (Grow.new ha)⟩) h.2
  · simp only [Rep] at p1 p2
    exact .inr (.inr (.inl ⟨_, _, p1, p2, h.1, k _ M _ H Ext.refl r (by simp only [Rep]) h.2⟩))
  · simp only [Rep] at p1 p2
    split at h
    · rename_i a b _ _ xs ys e1 e2
      obtain ⟨us, d1, q1⟩ := r.ob a _ e1
      obtain ⟨us', d2, q2⟩ := r.ob b _ e2
      refine .inr (.inr (.inr ⟨a, b, us, us', p1, p2, d1, d2, by rw [q1.length, q2.length]; exact h.1, fun p hp => ?_⟩))
      exact k _ _ _ _ (Ext.newL r hp) (r.newL hp (q1.append q2)) (by simp only [Rep]) (h.2 p (r.free hp))
    · exact h.elim
  · exact h.elim
end
end ML


set_option Elab.async false
set_option linter.all false
set_option maxRecDepth 100000
set_option maxHeartbeats 2000000
namespace ML
open PySem PySem.Spec PyProof.Rows L2
/-! ### data as a whole -/
mutual
def dat (M : Mh) : Nat → W → Option PyData
  | _, .non => some .none
  | _, .bl b => some (.bool b)
  | _, .int i => some (.int i)
  | _, .str x => some (.str x)
  | _, .ty _ => none
  | n, .tup ws => (dats M n ws).map .tuple
  | n, .lsv ws => (dats M n ws).map .list
  | 0, .ref _ => none
  | n + 1, .ref a => match M a with
    | some (.lst ws) => (dats M n ws).map .list
    | _ => none
termination_by n w => (n, sizeOf w)
def dats (M : Mh) : Nat → List W → Option (List PyData)
  | _, [] => some []
  | n, w :: ws => match dat M n w, dats M n ws with
    | some d, some ds => some (d :: ds)
    | _, _ => none
termination_by n ws => (n, sizeOf ws)
end
section
variable {K : PySem.W.Frag} {T : List (Addr × Str)} {M : Mh} {H : Hp}
mutual
theorem dat_ok (r : Rel K T M H) : ∀ (n : Nat) (w : W) (d : PyData) (v : V), dat M n w = some d → Rep K H w v → Dp K H v d
  | n, .non, d, v, h, p => by simp only [dat, Option.some.injEq] at h; simp only [Rep] at p; subst h; subst p; exact .non
  | n, .bl b, d, v, h, p => by simp only [dat, Option.some.injEq] at h; simp only [Rep] at p; subst h; subst p; exact .bl b
  | n, .int i, d, v, h, p => by simp only [dat, Option.some.injEq] at h; simp only [Rep] at p; subst h; subst p; exact .int i
  | n, .str x, d, v, h, p => by simp only [dat, Option.some.injEq] at h; simp only [Rep] at p; subst h; subst p; exact .str x
  | n, .ty x, d, v, h, p => by simp [dat] at h
  | n, .tup ws, d, v, h, p => by
    simp only [dat, Option.map_eq_some_iff] at h
    obtain ⟨ds, e, rfl⟩ := h
    simp only [Rep] at p
    obtain ⟨a, us, rfl, s, q⟩ := p
    exact .tup s (dats_ok r n ws ds us e q)
  | n, .lsv ws, d, v, h, p => by
    simp only [dat, Option.map_eq_some_iff] at h
    obtain ⟨ds, e, rfl⟩ := h
    simp only [Rep] at p
    obtain ⟨a, us, rfl, s, q⟩ := p
    exact .lst s.sq (dats_ok r n ws ds us e q)
  | 0, .ref a, d, v, h, p => by simp [dat] at h
  | n + 1, .ref a, d, v, h, p => by
    simp only [dat] at h
    split at h
    · rename_i ws e
      simp only [Option.map_eq_some_iff] at h
      obtain ⟨ds, e', rfl⟩ := h
      simp only [Rep] at p
      subst p
      obtain ⟨us, e2, q⟩ := r.ob a _ e
      exact .lst (.inl (.inl e2)) (dats_ok r n ws ds us e' q)
    · cases h
termination_by n w => (n, sizeOf w)
theorem dats_ok (r : Rel K T M H) : ∀ (n : Nat) (ws : List W) (ds : List PyData) (us : List V), dats M n ws = some ds → Reps K H ws us → DpAll K H us ds
  | n, [], ds, us, h, p => by
    simp only [dats, Option.some.injEq] at h
    subst h
    rw [p.nil_inv]
    exact .nil
  | n, w :: ws, ds, us, h, p => by
    simp only [dats] at h
    split at h
    · rename_i d ds' e1 e2
      simp only [Option.some.injEq] at h
      subst h
      obtain ⟨u, us', rfl, q1, q2⟩ := p.cons_inv
      exact .cons (dat_ok r n w d u e1 q1) (dats_ok r n ws ds' us' e2 q2)
    · cases h
termination_by n ws => (n, sizeOf ws)
end
end
/-! ### == -/
def eqW (M : Mh) (x y : W) : Option Bool := match x, y with
  | .int i, .int j => some (decide (i = j))
  | .str a, .str b => some (decide (a = b))
  | _, _ => match dat M 8 x, dat M 8 y with
    | some d, some e => if SeqAt.shaped d && SeqAt.shaped e then some (PyData.eqv d e) else none
    | _, _ => none
def fEq : W → W → Mh → MK → Prop := fun x y M R => match eqW M x y with
  | some c => R (.bl c) M
  | none => False
def fNe : W → W → Mh → MK → Prop := fun x y M R => match eqW M x y with
  | some c => R (.bl (!c)) M
  | none => False
section
variable {X : Cx} {T : List (Addr × Str)} {Wx : WX} {pos : Pos}
def rEqM (K : PySem.W.Frag) : R2 := fun x y H Q => rEq x y H Q ∨ rEqD K x y H Q
def rNeM (K : PySem.W.Frag) : R2 := fun x y H Q => rNe x y H Q ∨ rNeD K x y H Q
theorem op_eqM (hu : X.A.units + 64 < cLine) : OpR X (compareOp .Eq) (rEqM X.K) := op_eq.or (op_eqD hu)
theorem op_neM (hu : X.A.units + 64 < cLine) : OpR X (compareOp .NotEq) (rNeM X.K) := op_ne.or (op_neD hu)
theorem eqW_two {K : PySem.W.Frag} {M : Mh} {H : Hp} {x y : W} {v u : V} {c : Bool} (r : Rel K T M H) (p1 : Rep K H x v) (p2 : Rep K H y u) (h : eqW M x y = some c) :
    (scal v u = true ∧ decide (v = u) = c) ∨ ∃ d e, Dp K H v d ∧ Dp K H u e ∧ SeqAt.shaped d = true ∧ SeqAt.shaped e = true ∧ PyData.eqv d e = c := by
  unfold eqW at h
  split at h
  · simp only [Rep] at p1 p2
    subst p1; subst p2
    simp only [Option.some.injEq] at h
    left
    refine ⟨rfl, ?_⟩
    rw [← h]; simp
  · simp only [Rep] at p1 p2
    subst p1; subst p2
    simp only [Option.some.injEq] at h
    left
    refine ⟨rfl, ?_⟩
    rw [← h]; simp
  · split at h
    · rename_i d e e1 e2
      split at h
      · rename_i hs
        simp only [Option.some.injEq] at h
        simp only [Bool.and_eq_true] at hs
        exact .inr ⟨d, e, dat_ok r _ _ _ _ e1 p1, dat_ok r _ _ _ _ e2 p2, hs.1, hs.2, h⟩
      · cases h
    · cases h
theorem mo_eq : OpM X T (rEqM X.K) fEq := by
  intro x y M R v u H Q r p1 p2 h k
  unfold fEq at h
  split at h
  · rename_i c hc
    have fin := k (.bl c) M (.bl c) H Ext.refl r (by simp only [Rep]) h
    rcases eqW_two r p1 p2 hc with ⟨a, b⟩ | ⟨d, e, a1, a2, a3, a4, b⟩
    · exact .inl ⟨a, by rw [b]; exact fin⟩
    · exact .inr ⟨d, e, a1, a2, a3, a4, by rw [b]; exact fin⟩
  · exact h.elim
theorem mo_ne : OpM X T (rNeM X.K) fNe := by
  intro x y M R v u H Q r p1 p2 h k
  unfold fNe at h
  split at h
  · rename_i c hc
    have fin := k (.bl (!c)) M (.bl (!c)) H Ext.refl r (by simp only [Rep]) h
    rcases eqW_two r p1 p2 hc with ⟨a, b⟩ | ⟨d, e, a1, a2, a3, a4, b⟩
    · exact .inl ⟨a, by rw [b]; exact fin⟩
    · exact .inr ⟨d, e, a1, a2, a3, a4, by rw [b]; exact fin⟩
  · exact h.elim
end
/-! ### is None -/
def mIsN (m : ME) : ME := fun RX e M R => m RX e M fun w M1 => match w with
  | .non => R (.bl true) M1
  | _ => R (.bl false) M1
def mNotN (m : ME) : ME := fun RX e M R => m RX e M fun w M1 => match w with
  | .non => R (.bl false) M1
  | _ => R (.bl true) M1
theorem Rep.non_iff {K : PySem.W.Frag} {H : Hp} {w : W} {v : V} (p : Rep K H w v) : (v = .non ↔ w = .non) := by
  cases w <;> simp only [Rep] at p
  all_goals first
    | (subst p; simp)
    | (obtain ⟨a, us, rfl, _⟩ := p; simp)
section
variable {X : Cx} {T : List (Addr × Str)} {Wx : WX} {pos : Pos} {a : Expr} {ma : ME}
theorem me_isN {j pos'} (ha : PE X a (Lf X.K T Wx ma)) : PE X (.Compare a [.Is] [.Constant .none j pos'] pos) (Lf X.K T Wx (mIsN ma)) := by
  refine PE.wk (pe_cmp (pc_isN ha)) fun σ H Q h => ?_
  obtain ⟨RX, e, M, R, b, h, k⟩ := h
  refine one_ok b h fun w M1 v H1 x1 r1 p1 h1 => ?_
  have z := p1.non_iff
  have fin : ∀ c, R (.bl c) M1 → Q (.bl c) H1 := fun c q => k (.bl c) M1 (.bl c) H1 x1 r1 (by simp only [Rep]) q
  cases w
  · rw [decide_eq_true (z.mpr rfl)]; exact fin _ h1
  all_goals
    rw [decide_eq_false (fun q => by have := z.mp q; cases this)]
    exact fin _ h1
theorem me_notN {j pos'} (ha : PE X a (Lf X.K T Wx ma)) : PE X (.Compare a [.IsNot] [.Constant .none j pos'] pos) (Lf X.K T Wx (mNotN ma)) := by
  refine PE.wk (pe_cmp (pc_notN ha)) fun σ H Q h => ?_
  obtain ⟨RX, e, M, R, b, h, k⟩ := h
  refine one_ok b h fun w M1 v H1 x1 r1 p1 h1 => ?_
  have z := p1.non_iff
  have fin : ∀ c, R (.bl c) M1 → Q (.bl c) H1 := fun c q => k (.bl c) M1 (.bl c) H1 x1 r1 (by simp only [Rep]) q
  cases w
  · rw [decide_eq_true (z.mpr rfl)]; exact fin _ h1
  all_goals
    rw [decide_eq_false (fun q => by have := z.mp q; cases this)]
    exact fin _ h1
end
/-! ### in -/
def flatW : W → Bool
  | .non => true
  | .bl _ => true
  | .int _ => true
  | .str _ => true
  | _ => false
def eqF : W → W → Bool
  | .non, .non => true
  | .bl a, .bl b => a == b
  | .bl a, .int b => (if a then 1 else 0) == b
  | .int a, .bl b => a == (if b then 1 else 0)
  | .int a, .int b => a == b
  | .str a, .str b => a == b
  | _, _ => false
def items (M : Mh) : W → Option (List W)
  | .tup ws => some ws
  | .lsv ws => some ws
  | .ref a => match M a with
    | some (.lst ws) => some ws
    | _ => none
  | _ => none
def kW : Key → W
  | .inl i => .int i
  | .inr x => .str x
def keyOf : W → Option Key
  | .int i => some (.inl i)
  | .str x => some (.inr x)
  | _ => none
/-- what a dict holds -/
def getW (kvs : List (Key × W)) (k : Key) : Option W := (kvs.find? fun kv => decide (kv.1 = k)).map (·.2)
def putW (kvs : List (Key × W)) (k : Key) (v : W) : List (Key × W) :=
  if (kvs.any fun kv => decide (kv.1 = k)) = true then kvs.map (fun kv => if kv.1 = k then (kv.1, v) else kv) else kvs ++ [(k, v)]
/-- whether x is in y -/
def inW (M : Mh) (x y : W) : Option Bool := match items M y with
  | some ws => if flatW x && ws.all flatW then some (ws.any fun z => eqF z x) else none
  | none => match y with
    | .ref a => match M a, keyOf x with
      | some (.dct kvs), some k => some (getW kvs k).isSome
      | _, _ => none
    | _ => none
def fIn : W → W → Mh → MK → Prop := fun x y M R => match inW M x y with
  | some c => R (.bl c) M
  | none => False
def fNotIn : W → W → Mh → MK → Prop := fun x y M R => match inW M x y with
  | some c => R (.bl (!c)) M
  | none => False
section
variable {K : PySem.W.Frag} {T : List (Addr × Str)} {M : Mh} {H : Hp}
theorem flat_rep {w : W} {v : V} (p : Rep K H w v) (f : flatW w = true) : flatV v = true := by
  cases w <;> simp only [Rep] at p <;> first | (subst p; rfl) | (simp [flatW] at f)
theorem eqF_rep {w z : W} {v u : V} (p : Rep K H w v) (q : Rep K H z u) (f : flatW w = true) (g : flatW z = true) : eqV v u = eqF w z := by
  cases w <;> simp only [Rep] at p <;> first | (subst p; cases z <;> simp only [Rep] at q <;> first | (subst q; rfl) | (simp [flatW] at g)) | (simp [flatW] at f)
theorem flats_rep : ∀ {ws : List W} {us : List V}, Reps K H ws us → ws.all flatW = true → us.all flatV = true
  | [], us, p, _ => by rw [p.nil_inv]; rfl
  | w :: ws, us, p, f => by
    obtain ⟨u, r, rfl, a, b⟩ := p.cons_inv
    simp only [List.all_cons, Bool.and_eq_true] at f ⊢
    exact ⟨flat_rep a f.1, flats_rep b f.2⟩
theorem inV_rep {x : W} {v : V} (p : Rep K H x v) (g : flatW x = true) : ∀ {ws : List W} {us : List V}, Reps K H ws us → ws.all flatW = true → inV v us = ws.any fun z => eqF z x
  | [], us, p, _ => by rw [p.nil_inv]; rfl
  | w :: ws, us, q, f => by
    obtain ⟨u, r, rfl, a, b⟩ := q.cons_inv
    simp only [List.all_cons, Bool.and_eq_true] at f
    have ih := inV_rep p g b f.2
    unfold inV at ih ⊢
    rw [List.any_cons, List.any_cons, ih, eqF_rep a p f.1 g]
theorem RepF.val : ∀ {kvs : List (Key × W)} {us : List (Key × V)} (k : Key), RepF K H kvs us → (getW kvs k = none ∧ valV us k = none) ∨ ∃ w v, getW kvs k = some w ∧ valV us k = some v ∧ Rep K H w v
  | [], us, k, h => by
    have h : us = [] := h
    subst h
    exact .inl ⟨rfl, rfl⟩
  | (k', w) :: r, us, k, h => by
    obtain ⟨u, q, e, a, b⟩ := h
    subst e
    by_cases z : k' = k
    · right
      refine ⟨w, u, ?_, ?_, a⟩
      · unfold getW; simp [List.find?_cons, z]
      · exact valV_pos (p := (k', u)) z
    · have e1 : getW ((k', w) :: r) k = getW r k := by unfold getW; simp [List.find?_cons, z]
      have e2 : valV ((k', u) :: q) k = valV q k := valV_neg (p := (k', u)) z
      rw [e1, e2]
      exact RepF.val k b
theorem RepF.length : ∀ {kvs : List (Key × W)} {us : List (Key × V)}, RepF K H kvs us → us.length = kvs.length
  | [], us, h => by
    have h : us = [] := h
    subst h; rfl
  | (k', w) :: r, us, h => by
    obtain ⟨u, q, e, a, b⟩ := h
    subst e
    rw [List.length_cons, List.length_cons, RepF.length b]
theorem RepF.any (k : Key) : ∀ {kvs : List (Key × W)} {us : List (Key × V)}, RepF K H kvs us → (us.any fun kv => decide (kv.1 = k)) = kvs.any fun kv => decide (kv.1 = k)
  | [], us, h => by
    have h : us = [] := h
    subst h; rfl
  | (k', w) :: r, us, h => by
    obtain ⟨u, q, e, a, b⟩ := h
    subst e
    rw [List.any_cons, List.any_cons, RepF.any k b]
theorem RepF.rep (k : Key) {x : W} {v : V} (p : Rep K H x v) : ∀ {kvs : List (Key × W)} {us : List (Key × V)}, RepF K H kvs us → RepF K H (kvs.map fun kv => if kv.1 = k then (kv.1, x) else kv) (us.map fun kv => if kv.1 = k then (kv.1, v) else kv)
  | [], us, h => by
    have h : us = [] := h
    subst h; rfl
  | (k', w) :: r, us, h => by
    obtain ⟨u, q, e, a, b⟩ := h
    subst e
    have ih := RepF.rep k p b
    rw [List.map_cons, List.map_cons]
    by_cases z : k' = k
    · rw [if_pos z, if_pos z]
      exact ⟨v, _, rfl, p, ih⟩
    · rw [if_neg z, if_neg z]
      exact ⟨u, _, rfl, a, ih⟩
theorem RepF.snoc {k : Key} {x : W} {v : V} (p : Rep K H x v) : ∀ {kvs : List (Key × W)} {us : List (Key × V)}, RepF K H kvs us → RepF K H (kvs ++ [(k, x)]) (us ++ [(k, v)])
  | [], us, h => by
    have h : us = [] := h
    subst h; exact ⟨v, [], rfl, p, rfl⟩
  | (k', w) :: r, us, h => by
    obtain ⟨u, q, e, a, b⟩ := h
    subst e
    exact ⟨u, _, rfl, a, RepF.snoc p b⟩
theorem RepF.put {k : Key} {x : W} {v : V} (p : Rep K H x v) {kvs : List (Key × W)} {us : List (Key × V)} (h : RepF K H kvs us) : RepF K H (putW kvs k x) (putK us k v) := by
  unfold putW putK
  rw [h.any k]
  split
  · exact h.rep k p
  · exact h.snoc p
theorem Rep.key {w : W} {v : V} {k : Key} (p : Rep K H w v) (h : keyOf w = some k) : v = kV k := by
  cases w <;> simp only [keyOf, Option.some.injEq, reduceCtorEq] at h <;> simp only [Rep] at p
  · subst h; exact p
  · subst h; exact p
theorem items_ok (r : Rel K T M H) {y : W} {u : V} {ws : List W} (p : Rep K H y u) (h : items M y = some ws) : ∃ a us, u = .ref a ∧ (SqL K H a us ∨ SqT K H a us) ∧ Reps K H ws us := by
  cases y <;> simp only [items, Option.some.injEq, reduceCtorEq] at h <;> simp only [Rep] at p
  · rename_i a
    split at h
    · rename_i xs e
      simp only [Option.some.injEq] at h
      subst h
      obtain ⟨us, e2, q⟩ := r.ob a _ e
      exact ⟨a, us, p, .inl (.inl (.inl e2)), q⟩
    · cases h
  · subst h
    obtain ⟨a, us, e, s, q⟩ := p
    exact ⟨a, us, e, .inr s, q⟩
  · subst h
    obtain ⟨a, us, e, s, q⟩ := p
    exact ⟨a, us, e, .inl s.sq, q⟩
end
section
variable {X : Cx} {T : List (Addr × Str)} {Wx : WX} {pos : Pos}
def rDIn : R2 := fun x y H Q => ∃ a o, y = .ref a ∧ DGet H a x o ∧ Q (.bl o.isSome) H
def rDNotIn : R2 := fun x y H Q => ∃ a o, y = .ref a ∧ DGet H a x o ∧ Q (.bl (!o.isSome)) H
theorem op_din (hu : X.A.units + 1 < cLine) : OpR X (compareOp .In) rDIn := by
  intro pins s σ H x y v u Q I rx ry h
  obtain ⟨a, o, rfl, g, q⟩ := h
  cases ry
  exact d_in hu I g rx fun s' I' => ⟨.bl _, H, I', rfl, q⟩
theorem op_dnotin (hu : X.A.units + 1 < cLine) : OpR X (compareOp .NotIn) rDNotIn := by
  intro pins s σ H x y v u Q I rx ry h
  obtain ⟨a, o, rfl, g, q⟩ := h
  cases ry
  exact d_notIn hu I g rx fun s' I' => ⟨.bl _, H, I', rfl, q⟩
def rInM (K : PySem.W.Frag) : R2 := fun x y H Q => rIn K false x y H Q ∨ rDIn x y H Q
def rNotInM (K : PySem.W.Frag) : R2 := fun x y H Q => rIn K true x y H Q ∨ rDNotIn x y H Q
theorem op_inM (hu : X.A.units + 64 < cLine) : OpR X (compareOp .In) (rInM X.K) := op_in_seq.or (op_din (by omega))
theorem op_notInM (hu : X.A.units + 64 < cLine) : OpR X (compareOp .NotIn) (rNotInM X.K) := op_notIn_seq.or (op_dnotin (by omega))
theorem inW_two {K : PySem.W.Frag} {M : Mh} {H : Hp} {x y : W} {v u : V} {c : Bool} (r : Rel K T M H) (p1 : Rep K H x v) (p2 : Rep K H y u) (h : inW M x y = some c) :
    (∃ p xs, u = .ref p ∧ (SqL K H p xs ∨ SqT K H p xs) ∧ flatV v = true ∧ xs.all flatV = true ∧ inV v xs = c) ∨ ∃ a o, u = .ref a ∧ DGet H a v o ∧ o.isSome = c := by
  unfold inW at h
  split at h
  · rename_i ws e
    split at h
    · rename_i hf
      simp only [Bool.and_eq_true] at hf
      simp only [Option.some.injEq] at h
      obtain ⟨a, us, e1, s, q⟩ := items_ok r p2 e
      exact .inl ⟨a, us, e1, s, flat_rep p1 hf.1, flats_rep q hf.2, by rw [inV_rep p1 hf.1 q hf.2]; exact h⟩
    · cases h
  · cases y with
    | ref a =>
      simp only at h
      split at h
      · rename_i kvs k e1 e2
        simp only [Option.some.injEq] at h
        obtain ⟨us, e3, q⟩ := r.ob a _ e1
        simp only [Rep] at p2
        have ev := p1.key e2
        subst ev
        refine .inr ⟨a, _, p2, DGet.k (k := k) e3, ?_⟩
        rw [← h]
        rcases q.val k with ⟨z1, z2⟩ | ⟨w, v, z1, z2, _⟩
        · rw [z1, z2]; rfl
        · rw [z1, z2]; rfl
      · cases h
    | _ => cases h
theorem mo_in : OpM X T (rInM X.K) fIn := by
  intro x y M R v u H Q r p1 p2 h k
  unfold fIn at h
  split at h
  · rename_i c hc
    have fin := k (.bl c) M (.bl c) H Ext.refl r (by simp only [Rep]) h
    rcases inW_two r p1 p2 hc with ⟨p, xs, e, s, f1, f2, b⟩ | ⟨a, o, e, g, b⟩
    · exact .inl ⟨p, xs, e, s, f1, f2, by rw [if_neg (by decide), b]; exact fin⟩
    · exact .inr ⟨a, o, e, g, by rw [b]; exact fin⟩
  · exact h.elim
theorem mo_notIn : OpM X T (rNotInM X.K) fNotIn := by
  intro x y M R v u H Q r p1 p2 h k
  unfold fNotIn at h
  split at h
  · rename_i c hc
    have fin := k (.bl (!c)) M (.bl (!c)) H Ext.refl r (by simp only [Rep]) h
    rcases inW_two r p1 p2 hc with ⟨p, xs, e, s, f1, f2, b⟩ | ⟨a, o, e, g, b⟩
    · exact .inl ⟨p, xs, e, s, f1, f2, by rw [if_pos rfl, b]; exact fin⟩
    · exact .inr ⟨a, o, e, g, by rw [b]; exact fin⟩
  · exact h.elim
end
end ML


set_option Elab.async false
set_option linter.all false
set_option maxRecDepth 100000
set_option maxHeartbeats 2000000
namespace ML
open PySem PySem.Spec PyProof.Rows L2
/-! ### tests -/
def mVal (m : ME) : MT := fun RX e M R => m RX e M fun w M1 => match w with
  | .bl b => R b M1
  | _ => False
def mAnd (t u : MT) : MT := fun RX e M R => t RX e M fun c M1 => if c = true then u RX e M1 R else R false M1
def mOr (t u : MT) : MT := fun RX e M R => t RX e M fun c M1 => if c = true then R true M1 else u RX e M1 R
def mNot (t : MT) : MT := fun RX e M R => t RX e M fun c M1 => R (!c) M1
def mAndV (a b : ME) : ME := fun RX e M R => a RX e M fun w M1 => match w with
  | .bl c => if c = true then b RX e M1 R else R (.bl false) M1
  | _ => False
def mOrV (a b : ME) : ME := fun RX e M R => a RX e M fun w M1 => match w with
  | .bl c => if c = true then R (.bl true) M1 else b RX e M1 R
  | _ => False
def mNotV (a : ME) : ME := fun RX e M R => a RX e M fun w M1 => match w with
  | .bl c => R (.bl (!c)) M1
  | _ => False
def mIf (t : MT) (a b : ME) : ME := fun RX e M R => t RX e M fun c M1 => if c = true then a RX e M1 R else b RX e M1 R
/-- a op b op' c -/
def mChain (f f' : W → W → Mh → MK → Prop) (ma mb mc : ME) : ME := fun RX e M R => ma RX e M fun x M1 => mb RX e M1 fun y M2 => f x y M2 fun z M3 => match z with
  | .bl c => if c = true then mc RX e M3 fun w M4 => f' y w M4 R else R (.bl false) M3
  | _ => False
section
variable {X : Cx} {T : List (Addr × Str)} {Wx : WX} {pos : Pos} {gd : Bool}
theorem valT_ok {K : PySem.W.Frag} {σ : L2.St} {H : Hp} {Q : Bool → Hp → Prop} {m : ME} (h : LfT K T Wx (mVal m) σ H Q) : Lf K T Wx m σ H fun x H1 => ∃ c, x = .bl c ∧ Q c H1 := by
  obtain ⟨RX, e, M, R, b, h, k⟩ := h
  refine one_ok b h fun w M1 v H1 x1 r1 p1 h1 => ?_
  split at h1
  · simp only [Rep] at p1
    exact ⟨_, p1, k _ M1 H1 x1 r1 h1⟩
  · exact h1.elim
/-- an expression that is no and, or, not, comparison, as a test -/
theorem mt_val {ex : Expr} {m : ME} (h : PE X ex (Lf X.K T Wx m)) (he : ∀ whole, isTrue ex X.env whole = (do let v ← whole; standAt ex.pos; holding [v] (truthy v)) := by intro _; rfl) : PT X ex (LfT X.K T Wx (mVal m)) :=
  PT.wk (pt_val h he) fun _ _ _ h => valT_ok h
theorem mt_cmp {a b : Expr} {ma mb : ME} {op : CmpOp} {r : R2} {f : W → W → Mh → MK → Prop} (ho : OpR X (compareOp op) r) (hf : OpM X T r f) (ha : PE X a (Lf X.K T Wx ma)) (hb : PE X b (Lf X.K T Wx mb)) (hm : behindInMarks op b = false := by rfl) :
    PT X (.Compare a [op] [b] pos) (LfT X.K T Wx (mVal (mOp f ma mb))) := by
  refine PT.wk (pt_cmpR ho ha hb hm) fun σ H Q h => ?_
  obtain ⟨RX, e, M, R, b, h, k⟩ := h
  refine two_ok b h fun x y M2 v u H2 x2 r2 p1 p2 h2 => hf x y M2 _ v u H2 _ r2 p1 p2 h2 fun w M' v' H' x3 r3 p3 h3 => ?_
  split at h3
  · simp only [Rep] at p3
    exact ⟨_, p3, k _ M' H' (x2.trans x3) r3 h3⟩
  · exact h3.elim
theorem mt_isN {a : Expr} {ma : ME} {j pos'} (ha : PE X a (Lf X.K T Wx ma)) : PT X (.Compare a [.Is] [.Constant .none j pos'] pos) (LfT X.K T Wx (mVal (mIsN ma))) := by
  refine PT.wk (pt_cmp (pc_isN ha)) fun σ H Q h => ?_
  obtain ⟨RX, e, M, R, b, h, k⟩ := h
  refine one_ok b h fun w M1 v H1 x1 r1 p1 h1 => ?_
  have z := p1.non_iff
  cases w
  · rw [decide_eq_true (z.mpr rfl)]; exact ⟨true, rfl, k _ M1 H1 x1 r1 h1⟩
  all_goals
    rw [decide_eq_false (fun q => by have := z.mp q; cases this)]
    exact ⟨false, rfl, k _ M1 H1 x1 r1 h1⟩
theorem mt_notN {a : Expr} {ma : ME} {j pos'} (ha : PE X a (Lf X.K T Wx ma)) : PT X (.Compare a [.IsNot] [.Constant .none j pos'] pos) (LfT X.K T Wx (mVal (mNotN ma))) := by
  refine PT.wk (pt_cmp (pc_notN ha)) fun σ H Q h => ?_
  obtain ⟨RX, e, M, R, b, h, k⟩ := h
  refine one_ok b h fun w M1 v H1 x1 r1 p1 h1 => ?_
  have z := p1.non_iff
  cases w
  · rw [decide_eq_true (z.mpr rfl)]; exact ⟨false, rfl, k _ M1 H1 x1 r1 h1⟩
  all_goals
    rw [decide_eq_false (fun q => by have := z.mp q; cases this)]
    exact ⟨true, rfl, k _ M1 H1 x1 r1 h1⟩
theorem mw_and1 {a : Expr} {t : MT} (h : PT X a (LfT X.K T Wx t)) : PW X (.BoolOp .And [a] pos) (LfT X.K T Wx t) := pw_and1 h
theorem mw_or1 {a : Expr} {t : MT} (h : PT X a (LfT X.K T Wx t)) : PW X (.BoolOp .Or [a] pos) (LfT X.K T Wx t) := pw_or1 h
theorem PW.wk {e : Expr} {t t' : TT} (h : PW X e t) (w : ∀ σ H Q, t' σ H Q → t σ H Q) : PW X e t' := ⟨fun wh pins s σ H Q I q => h.run wh pins s σ H Q I (w _ _ _ q)⟩
theorem mw_and {a b : Expr} {rest : List Expr} {t u : MT} (h : PT X a (LfT X.K T Wx t)) (h' : PW X (.BoolOp .And (b :: rest) pos) (LfT X.K T Wx u)) : PW X (.BoolOp .And (a :: b :: rest) pos) (LfT X.K T Wx (mAnd t u)) := by
  refine PW.wk (pw_and h h') fun σ H Q h => ?_
  obtain ⟨RX, e, M, R, b, h, k⟩ := h
  refine ⟨RX, e, M, _, b, h, fun c M1 H1 x1 r1 h1 => ?_⟩
  cases c with
  | true => exact ⟨RX, e, M1, _, b.next x1 r1, h1, fun c' M2 H2 x2 r2 h2 => k c' M2 H2 (x1.trans x2) r2 h2⟩
  | false => exact k false M1 H1 x1 r1 h1
theorem mw_or {a b : Expr} {rest : List Expr} {t u : MT} (h : PT X a (LfT X.K T Wx t)) (h' : PW X (.BoolOp .Or (b :: rest) pos) (LfT X.K T Wx u)) : PW X (.BoolOp .Or (a :: b :: rest) pos) (LfT X.K T Wx (mOr t u)) := by
  refine PW.wk (pw_or h h') fun σ H Q h => ?_
  obtain ⟨RX, e, M, R, b, h, k⟩ := h
  refine ⟨RX, e, M, _, b, h, fun c M1 H1 x1 r1 h1 => ?_⟩
  cases c with
  | false => exact ⟨RX, e, M1, _, b.next x1 r1, h1, fun c' M2 H2 x2 r2 h2 => k c' M2 H2 (x1.trans x2) r2 h2⟩
  | true => exact k true M1 H1 x1 r1 h1
theorem mt_bool {op : BoolOp} {es : List Expr} {t : MT} (h : PW X (.BoolOp op es pos) (LfT X.K T Wx t)) : PT X (.BoolOp op es pos) (LfT X.K T Wx t) := h.pt
theorem mt_not {a : Expr} {t : MT} (h : PT X a (LfT X.K T Wx t)) : PT X (.UnaryOp .Not a pos) (LfT X.K T Wx (mNot t)) := by
  refine PT.wk (pt_not h) fun σ H Q h => ?_
  obtain ⟨RX, e, M, R, b, h, k⟩ := h
  exact ⟨RX, e, M, _, b, h, fun c M1 H1 x1 r1 h1 => k (!c) M1 H1 x1 r1 h1⟩
theorem me_one {op : BoolOp} {a : Expr} {m : ME} (h : PE X a (Lf X.K T Wx m)) : PE X (.BoolOp op [a] pos) (Lf X.K T Wx m) := pe_one h
theorem me_and {a b : Expr} {rest : List Expr} {ma mb : ME} (ha : PE X a (Lf X.K T Wx ma)) (hb : PE X (.BoolOp .And (b :: rest) pos) (Lf X.K T Wx mb)) : PE X (.BoolOp .And (a :: b :: rest) pos) (Lf X.K T Wx (mAndV ma mb)) := by
  refine PE.wk (pe_and ha hb) fun σ H Q h => ?_
  obtain ⟨RX, e, M, R, b, h, k⟩ := h
  refine one_ok b h fun w M1 v H1 x1 r1 p1 h1 => ?_
  split at h1
  · rename_i c
    simp only [Rep] at p1
    refine ⟨c, p1, ?_⟩
    cases c with
    | true => exact ⟨RX, e, M1, _, b.next x1 r1, h1, fun w' M2 v' H2 x2 => k w' M2 v' H2 (x1.trans x2)⟩
    | false => exact k (.bl false) M1 _ H1 x1 r1 (by simp only [Rep]) h1
  · exact h1.elim
theorem me_or {a b : Expr} {rest : List Expr} {ma mb : ME} (ha : PE X a (Lf X.K T Wx ma)) (hb : PE X (.BoolOp .Or (b :: rest) pos) (Lf X.K T Wx mb)) : PE X (.BoolOp .Or (a :: b :: rest) pos) (Lf X.K T Wx (mOrV ma mb)) := by
  refine PE.wk (pe_or ha hb) fun σ H Q h => ?_
  obtain ⟨RX, e, M, R, b, h, k⟩ := h
  refine one_ok b h fun w M1 v H1 x1 r1 p1 h1 => ?_
  split at h1
  · rename_i c
    simp only [Rep] at p1
    refine ⟨c, p1, ?_⟩
    cases c with
    | false => exact ⟨RX, e, M1, _, b.next x1 r1, h1, fun w' M2 v' H2 x2 => k w' M2 v' H2 (x1.trans x2)⟩
    | true => exact k (.bl true) M1 _ H1 x1 r1 (by simp only [Rep]) h1
  · exact h1.elim
theorem me_not {a : Expr} {ma : ME} (ha : PE X a (Lf X.K T Wx ma)) : PE X (.UnaryOp .Not a pos) (Lf X.K T Wx (mNotV ma)) := by
  refine PE.wk (pe_not ha) fun σ H Q h => ?_
  obtain ⟨RX, e, M, R, b, h, k⟩ := h
  refine one_ok b h fun w M1 v H1 x1 r1 p1 h1 => ?_
  split at h1
  · rename_i c
    simp only [Rep] at p1
    exact ⟨c, p1, k (.bl (!c)) M1 _ H1 x1 r1 (by simp only [Rep]) h1⟩
  · exact h1.elim
theorem me_if {c a b : Expr} {t : MT} {ma mb : ME} (hc : PT X c (LfT X.K T Wx t)) (ha : PE X a (Lf X.K T Wx ma)) (hb : PE X b (Lf X.K T Wx mb)) : PE X (.IfExp c a b pos) (Lf X.K T Wx (mIf t ma mb)) := by
  refine PE.wk (pe_ifExp hc ha hb) fun σ H Q h => ?_
  obtain ⟨RX, e, M, R, b, h, k⟩ := h
  refine ⟨RX, e, M, _, b, h, fun c M1 H1 x1 r1 h1 => ?_⟩
  cases c with
  | true => exact ⟨RX, e, M1, _, b.next x1 r1, h1, fun w' M2 v' H2 x2 => k w' M2 v' H2 (x1.trans x2)⟩
  | false => exact ⟨RX, e, M1, _, b.next x1 r1, h1, fun w' M2 v' H2 x2 => k w' M2 v' H2 (x1.trans x2)⟩
theorem chainM_ok {K : PySem.W.Frag} {σ : L2.St} {H : Hp} {Q : VK} {ma mb mc : ME} {r r' : R2} {f f' : W → W → Mh → MK → Prop}
    (hf : ∀ x y M R v u H Q, Rel K T M H → Rep K H x v → Rep K H y u → f x y M R → (∀ w M' v' H', Ext M H M' H' → Rel K T M' H' → Rep K H' w v' → R w M' → Q v' H') → r v u H Q)
    (hf' : ∀ x y M R v u H Q, Rel K T M H → Rep K H x v → Rep K H y u → f' x y M R → (∀ w M' v' H', Ext M H M' H' → Rel K T M' H' → Rep K H' w v' → R w M' → Q v' H') → r' v u H Q)
    (h : Lf K T Wx (mChain f f' ma mb mc) σ H Q) : tChain r r' (Lf K T Wx ma) (Lf K T Wx mb) (Lf K T Wx mc) σ H Q := by
  obtain ⟨RX, e, M, R, b, h, k⟩ := h
  refine two_ok b h fun x y M2 v u H2 x2 r2 p1 p2 h2 => hf x y M2 _ v u H2 _ r2 p1 p2 h2 fun w M' v' H' x3 r3 p3 h3 => ?_
  split at h3
  · rename_i c
    simp only [Rep] at p3
    refine ⟨c, p3, ?_⟩
    cases c with
    | true =>
      refine one_ok ((b.next x2 r2).next x3 r3) h3 fun w4 M4 v4 H4 x4 r4 p4 h4 => ?_
      exact hf' y w4 M4 R u v4 H4 Q r4 ((p2.grow x3.grow).grow x4.grow) p4 h4 fun w5 M5 v5 H5 x5 => k w5 M5 v5 H5 (((x2.trans x3).trans x4).trans x5)
    | false => exact k _ M' _ H' (x2.trans x3) r3 (by simp only [Rep]) h3
  · exact h3.elim
theorem me_chain {op op' : CmpOp} {a b c : Expr} {ma mb mc : ME} {r r' : R2} {f f' : W → W → Mh → MK → Prop} (ho : OpR X (compareOp op) r) (hf : OpM X T r f) (ho' : OpR X (compareOp op') r') (hf' : OpM X T r' f') (ha : PE X a (Lf X.K T Wx ma)) (hb : PE X b (Lf X.K T Wx mb)) (hc : PE X c (Lf X.K T Wx mc))
    (hm : lastMarks [op, op'] [b, c] = false := by with_unfolding_all rfl) : PE X (.Compare a [op, op'] [b, c] pos) (Lf X.K T Wx (mChain f f' ma mb mc)) :=
  PE.wk (pe_chain ho ho' ha hb hc hm) fun _ _ _ h => chainM_ok hf hf' h
theorem mt_chain {op op' : CmpOp} {a b c : Expr} {ma mb mc : ME} {r r' : R2} {f f' : W → W → Mh → MK → Prop} (ho : OpR X (compareOp op) r) (hf : OpM X T r f) (ho' : OpR X (compareOp op') r') (hf' : OpM X T r' f') (ha : PE X a (Lf X.K T Wx ma)) (hb : PE X b (Lf X.K T Wx mb)) (hc : PE X c (Lf X.K T Wx mc))
    (hm : lastMarks [op, op'] [b, c] = false := by with_unfolding_all rfl) : PT X (.Compare a [op, op'] [b, c] pos) (LfT X.K T Wx (mVal (mChain f f' ma mb mc))) := by
  refine PT.wk (pt_chain ho ho' ha hb hc hm) fun σ H Q h => ?_
  refine chainM_ok (Q := fun x H' => ∃ k, x = V.bl k ∧ Q k H') hf hf' ?_
  obtain ⟨RX, e, M, R, b, h, k⟩ := h
  refine ⟨RX, e, M, _, b, h, fun w M1 v H1 x1 r1 p1 h1 => ?_⟩
  split at h1
  · simp only [Rep] at p1
    exact ⟨_, p1, k _ M1 H1 x1 r1 h1⟩
  · exact h1.elim
/-! ### calls of a def -/
def mCall (sp : MSp) (ms : List ME) : ME := fun RX e M R => mArgs ms RX e M fun ws M1 => sp RX ws M1 R
theorem call_ok {K : PySem.W.Frag} {σ : L2.St} {H : Hp} {Q : VK} {ms : List ME} {sp : MSp} {n : Nat} (hn : ms.length = n) (h : Lf K T Wx (mCall sp ms) σ H Q) : tCallS (LfSp K T n sp) (WE Wx) (tCh K T Wx ms) σ H Q := by
  obtain ⟨RX, e, M, R, b, h, k⟩ := h
  refine chain_ok b h fun ws M1 vs H1 hz x1 r1 p1 h1 => ?_
  exact ⟨RX, ws, M1, R, by rw [← p1.length, hz, hn], p1, r1, h1, fun w M' v H' x2 => k w M' v H' (x1.trans x2), fun C M' H' x2 r2 q => b.exc C M' σ H' (x1.trans x2) r2 q⟩
/-- a def of the text keeps its promise, where nothing is being shown -/
structure FnG (P : Program) (w : World) (K : PySem.W.Frag) (mg : Str → Option Value) (base : Heap) (T : List (Addr × Str)) (gd : Bool) (k : Nat) (f : Addr) (fd : FuncData) (ps : List Str) (n : Nat) (sp : MSp) : Prop where
  len : ps.length = n
  run : ∀ (A : Around) (outer : List Env) (s : Shared) (H : Hp) (args : Args) (us : List Value) (vs : List V) (Q : VK) (E : XK), Room k A → (gd = true → A.guards = some []) → Env0 P w K mg base A outer s H → BindsTo s fd args (ps.zip us) → Vals vs us → LfSp K T n sp vs H Q E →
    codeAny (model P w) A (.call (.ref f) args) (CR (L2.CX P w) outer P w H s Q E) s
theorem FnG.mono {gd : Bool} {P : Program} {w : World} {K : PySem.W.Frag} {mg : Str → Option Value} {base : Heap} {j k : Nat} {f : Addr} {fd : FuncData} {ps : List Str} {n : Nat} {sp : MSp} (F : FnG P w K mg base T gd j f fd ps n sp) (h : j ≤ k) : FnG P w K mg base T gd k f fd ps n sp :=
  ⟨F.len, fun A outer s H args us vs Q E hr => F.run A outer s H args us vs Q E (hr.mono h)⟩
theorem runG {k : Nat} {f : Addr} {fd : FuncData} {ps : List Str} {n : Nat} {sp : MSp} {pins : List (Addr × Obj)} {σ : L2.St} {H : Hp} {s : Shared} {Q : VK} {args : Args} {us : List Value} {vs : List V} (F : FnG X.prog X.w X.K X.mg X.base T gd k f fd ps n sp) (hr : Room k X.A) (gA : gd = true → X.A.guards = some [])
    (hb : BindsTo s fd args (ps.zip us)) (tk : Takes X Wx) (I : Inv X pins σ H s) (r : Vals vs us) (h : LfSp X.K T n sp vs H Q (WE Wx σ)) : codeAny (model X.prog X.w) X.A (.call (.ref f) args) (fun r s' => (match r with
      | .ok (.ret u) => EP X pins σ Q u s'
      | .ok _ => False
      | .error e => X.xe e s')) s := by
  refine codeAny_mono (F.run X.A X.stack s H args us vs Q (WE Wx σ) hr gA I.env0 hb r h) fun r s' hq => ?_
  cases r with
  | error e => exact passAt tk σ pins H s e s' I hq
  | ok fl =>
    cases fl with
    | ret u => exact I.after hq
    | next => exact False.elim hq
    | brk => exact False.elim hq
    | cont => exact False.elim hq
theorem runG' {k : Nat} {f : Addr} {fd : FuncData} {ps : List Str} {n : Nat} {sp : MSp} {pins : List (Addr × Obj)} {σ : L2.St} {H : Hp} {s : Shared} {Q : VK} {as : List Value} {kw : List (Str × Value)} {us : List Value} {vs : List V} (F : FnG X.prog X.w X.K X.mg X.base T gd k f fd ps n sp) (hr : Room k X.A) (gA : gd = true → X.A.guards = some [])
    (hb : BindsTo s fd ⟨as, kw⟩ (ps.zip us)) (tk : Takes X Wx) (I : Inv X pins σ H s) (r : Vals vs us) (h : LfSp X.K T n sp vs H Q (WE Wx σ)) : wpAny (model X.prog X.w) X.A (call (.ref f) as kw) (EP X pins σ Q) X.xe s := by
  refine wpAny_call (codeAny_mono (runG F hr gA hb tk I r h) fun r s' hq => ?_)
  cases r with
  | error e => exact hq
  | ok fl =>
    cases fl with
    | ret u => exact hq
    | next => exact False.elim hq
    | brk => exact False.elim hq
    | cont => exact False.elim hq
theorem LfSp.len {K : PySem.W.Frag} {n : Nat} {sp : MSp} {vs : List V} {H : Hp} {Q : VK} {E : XK} (h : LfSp K T n sp vs H Q E) : vs.length = n := by
  obtain ⟨RX, ws, M, R, h1, h2, _⟩ := h
  rw [h2.length, h1]
theorem me_call {x : Str} {k : Nat} {f : Addr} {fd : FuncData} {ps : List Str} {sp : MSp} {n : Nat} {p : Pos} {e : Expr} {es : List Expr} {ms : List ME} (F : FnG X.prog X.w X.K X.mg X.base T gd k f fd ps n sp) (hr : Room k X.A) (gA : gd = true → X.A.guards = some []) (hm : X.mg x = some (.ref f))
    (hk : PySem.W.keepIn X.K (.ref f) = true) (hb : Binds X.K fd ps []) (tk : Takes X Wx) (ha : PA X (e :: es) (tCh X.K T Wx ms)) (hn : ms.length = n := by rfl) (hg : Gl X x := by rfl) (hdb : (x == ("__debug__" : Str)) = false := by decide)
    (he : starEach (e :: es) X.env = (false, eval e X.env) :: starEach es X.env := by rfl) (hpl : (backTo pos (starEach es X.env)).any (·.1) = false := by rfl) : PE X (.Call (.Name x p) (e :: es) [] pos) (Lf X.K T Wx (mCall sp ms)) := by
  refine ⟨fun pins s σ H Q I h => ?_⟩
  refine wpAny_Call_Name_kw (ld_glob I hg hm ?_ hdb)
  refine PySem.W.callWith_K (h₀ := X.base) I.ok.mod.kin hk (thn (ha.run pos pins s σ H _ I (call_ok hn h)) fun us s1 ⟨vs, H1, I1, r, q⟩ => ⟨I1.kIn, ?_⟩) he hpl
  have q : LfSp X.K T n sp vs H1 Q (WE Wx σ) := q
  have hl : us.length = ps.length := by rw [← r.length, q.len, F.len]
  have b := hb s1 us I1.kIn (by rw [List.append_nil]; exact hl)
  rw [List.append_nil] at b
  exact runG' F hr gA b tk I1 r q
theorem me_call0 {x : Str} {k : Nat} {f : Addr} {fd : FuncData} {ps : List Str} {sp : MSp} {p : Pos} (F : FnG X.prog X.w X.K X.mg X.base T gd k f fd ps 0 sp) (hr : Room k X.A) (gA : gd = true → X.A.guards = some []) (hm : X.mg x = some (.ref f))
    (hk : PySem.W.keepIn X.K (.ref f) = true) (hb : Binds X.K fd ps []) (tk : Takes X Wx) (hg : Gl X x := by rfl) (hdb : (x == ("__debug__" : Str)) = false := by decide) : PE X (.Call (.Name x p) [] [] pos) (Lf X.K T Wx (mCall sp [])) := by
  refine ⟨fun pins s σ H Q I h => ?_⟩
  refine wpAny_Call_Name_kw (ld_glob I hg hm ?_ hdb)
  have b := hb s [] I.kIn (by rw [List.append_nil, F.len]; rfl)
  rw [List.append_nil] at b
  exact PySem.W.callWith_K0 I.kIn hk (runG' (vs := []) F hr gA b tk I .nil (call_ok (ms := []) rfl h))
/-- f(k = e, ..): the keywords alone; g puts them in the parameters' order -/
theorem me_callK {x : Str} {k : Nat} {f : Addr} {fd : FuncData} {ps : List Str} (ks : List Str) {sp : MSp} {n : Nat} {p : Pos} {kws : List Keyword} {ms : List ME} (g : {α : Type} → List α → List α)
    (F : FnG X.prog X.w X.K X.mg X.base T gd k f fd ps n sp) (hr : Room k X.A) (gA : gd = true → X.A.guards = some []) (hm : X.mg x = some (.ref f)) (hk : PySem.W.keepIn X.K (.ref f) = true)
    (hb : ∀ (s : Shared) (ws : List Value), ws.length = n → BindsTo s fd ⟨[], ks.zip ws⟩ (ps.zip (g ws)))
    (hv : ∀ {vs : List V} {us : List Value}, Vals vs us → vs.length = n → Vals (g vs) (g us)) (hw : ∀ {H : Hp} {ws : List W} {vs : List V}, Reps X.K H ws vs → vs.length = n → Reps X.K H (g ws) (g vs) ∧ (g ws).length = n)
    (tk : Takes X Wx) (ha : PK X kws (tCh X.K T Wx ms)) (hn : ms.length = n := by rfl) (hg : Gl X x := by rfl) (hdb : (x == ("__debug__" : Str)) = false := by decide)
    (hall : (backToKw pos (keywordEach kws X.env)).all (·.1.isSome) = true := by rfl) (hks : (backToKw pos (keywordEach kws X.env)).filterMap (·.1) = ks := by rfl)
    (hpl : ((backTo pos (starEach [] X.env)).any (·.1) || (backToKw pos (keywordEach kws X.env)).any (·.1.isNone)) = false := by rfl) :
    PE X (.Call (.Name x p) [] kws pos) (Lf X.K T Wx (mCall (fun RX ws M R => sp RX (g ws) M R) ms)) := by
  refine ⟨fun pins s σ H Q I h => ?_⟩
  refine wpAny_Call_Name_kw (ld_glob I hg hm ?_ hdb)
  refine PySem.W.callWith_KW0 (h₀ := X.base) I.ok.mod.kin hk hall ?_ hpl
  obtain ⟨RX, e, M, R, b, h, kk⟩ := h
  have hq : tCh X.K T Wx ms σ H fun vs H1 => vs.length = n ∧ LfSp X.K T n sp (g vs) H1 Q (WE Wx σ) := by
    refine chain_ok b h fun ws M1 vs H1 hz x1 r1 p1 h1 => ⟨hz.trans hn, ?_⟩
    obtain ⟨q1, q2⟩ := hw p1 (hz.trans hn)
    exact ⟨RX, g ws, M1, R, q2, q1, r1, h1, fun w M' v H' x2 => kk w M' v H' (x1.trans x2), fun C M' H' x2 r2 q => b.exc C M' σ H' (x1.trans x2) r2 q⟩
  refine thn (ha.run pos pins s σ H _ I hq) fun us s1 ⟨vs, H1, I1, rv, hl, q1⟩ => ⟨I1.kIn, ?_⟩
  rw [hks]
  have lu : us.length = n := by rw [← rv.length]; exact hl
  exact runG' F hr gA (hb s1 us lu) tk I1 (hv rv hl) q1
theorem mk_nil : PK X [] (tCh X.K T Wx []) := pk_nil
theorem mk_cons {nm : Option Str} {e : Expr} {kpos : Pos} {kws : List Keyword} {m : ME} {ms : List ME} (ha : PE X e (Lf X.K T Wx m)) (hr : PK X kws (tCh X.K T Wx ms)) : PK X (⟨nm, e, kpos⟩ :: kws) (tCh X.K T Wx (m :: ms)) := pk_cons ha hr
/-! ### calls of built-ins, by values -/
def mFn (f : List W → Mh → MK → Prop) (ms : List ME) : ME := fun RX e M R => mArgs ms RX e M fun ws M1 => f ws M1 R
def FnM (X : Cx) (T : List (Addr × Str)) (r : List V → Hp → VK → Prop) (f : List W → Mh → MK → Prop) : Prop :=
  ∀ ws M R vs H Q, Rel X.K T M H → Reps X.K H ws vs → f ws M R → (∀ w M' v' H', Ext M H M' H' → Rel X.K T M' H' → Rep X.K H' w v' → R w M' → Q v' H') → r vs H Q
theorem fnM_ok {σ : L2.St} {H : Hp} {Q : VK} {ms : List ME} {r : List V → Hp → VK → Prop} {f : List W → Mh → MK → Prop} (hf : FnM X T r f) (h : Lf X.K T Wx (mFn f ms) σ H Q) : tCB r (tCh X.K T Wx ms) σ H Q := by
  obtain ⟨RX, e, M, R, b, h, k⟩ := h
  exact chain_ok b h fun ws M1 vs H1 hz x1 r1 p1 h1 => hf ws M1 R vs H1 Q r1 p1 h1 fun w M' v H' x2 => k w M' v H' (x1.trans x2)
theorem me_fnB {x : Str} {id : String} {p : Pos} {e : Expr} {es : List Expr} {ms : List ME} {r : List V → Hp → VK → Prop} {f : List W → Mh → MK → Prop} (hc : CallR X (.builtin id) r) (hf : FnM X T r f) (hm : X.mg x = none) (hv : bootBuiltins x = some (.builtin id)) (ha : PA X (e :: es) (tCh X.K T Wx ms))
    (hg : Gl X x := by rfl) (hn : x ≠ "__name__" := by decide) (hdb : (x == ("__debug__" : Str)) = false := by decide) (he : starEach (e :: es) X.env = (false, eval e X.env) :: starEach es X.env := by rfl) (hpl : (backTo pos (starEach es X.env)).any (·.1) = false := by rfl) :
    PE X (.Call (.Name x p) (e :: es) [] pos) (Lf X.K T Wx (mFn f ms)) := PE.wk (pe_callB hc hg hm hv ha hn hdb he hpl) fun _ _ _ h => fnM_ok hf h
theorem me_fnT {x : Str} {id : String} {p : Pos} {e : Expr} {es : List Expr} {ms : List ME} {r : List V → Hp → VK → Prop} {f : List W → Mh → MK → Prop} (hc : CallR X (.type id) r) (hf : FnM X T r f) (hm : X.mg x = none) (hv : bootBuiltins x = some (.type id)) (ha : PA X (e :: es) (tCh X.K T Wx ms))
    (hg : Gl X x := by rfl) (hn : x ≠ "__name__" := by decide) (hdb : (x == ("__debug__" : Str)) = false := by decide) (he : starEach (e :: es) X.env = (false, eval e X.env) :: starEach es X.env := by rfl) (hpl : (backTo pos (starEach es X.env)).any (·.1) = false := by rfl) :
    PE X (.Call (.Name x p) (e :: es) [] pos) (Lf X.K T Wx (mFn f ms)) := PE.wk (pe_callTy hc hg hm hv ha hn hdb he hpl) fun _ _ _ h => fnM_ok hf h
end
end ML


set_option Elab.async false
set_option linter.all false
set_option maxRecDepth 100000
set_option maxHeartbeats 2000000
namespace ML
open PySem PySem.Spec PyProof.Rows L2
/-! ### isinstance -/
inductive Ty where
  | non | bl | int | str | tup | lst | dct
  deriving DecidableEq
def Ty.name : Ty → String
  | .non => "NoneType" | .bl => "bool" | .int => "int" | .str => "str" | .tup => "tuple" | .lst => "list" | .dct => "dict"
def isT (t u : Ty) : Bool := decide (t = u) || (decide (t = .bl) && decide (u = .int))
theorem kit_isT (t u : Ty) (h : u ≠ .non) : kitB t.name u.name = some (isT t u) := by
  cases t <;> cases u <;> first | exact absurd rfl h | decide +kernel
def tyW (M : Mh) : W → Option Ty
  | .non => some .non
  | .bl _ => some .bl
  | .int _ => some .int
  | .str _ => some .str
  | .tup _ => some .tup
  | .lsv _ => some .lst
  | .ty _ => none
  | .ref a => match M a with
    | some (.lst _) => some .lst
    | some (.dct _) => some .dct
    | some (.drw _) => some .dct
    | _ => none
/-- isinstance(x, u) -/
def mIsi (u : Ty) (m : ME) : ME := fun RX e M R => m RX e M fun w M1 => match tyW M1 w with
  | some t => R (.bl (isT t u)) M1
  | none => False
section
variable {K : PySem.W.Frag} {T : List (Addr × Str)} {M : Mh} {H : Hp}
theorem tyW_ok (r : Rel K T M H) {w : W} {v : V} {t : Ty} (p : Rep K H w v) (h : tyW M w = some t) : TyX K H v (.type t.name) := by
  cases w <;> simp only [tyW, Option.some.injEq, reduceCtorEq] at h <;> simp only [Rep] at p
  · subst h; subst p; exact .base .non
  · subst h; subst p; exact .base (.bl _)
  · subst h; subst p; exact .base (.int _)
  · subst h; subst p; exact .base (.str _)
  · subst p
    split at h <;> first | (cases h; done) | skip
    · rename_i ws e
      cases h
      obtain ⟨us, e2, q⟩ := r.ob _ _ e
      exact .base (.lst e2)
    · rename_i ws e
      cases h
      obtain ⟨us, e2, q⟩ := r.ob _ _ e
      exact .base (.dK e2)
    · rename_i e
      cases h
      obtain ⟨⟨g, c, gs, cs, rest, turn, d, _⟩, _⟩ := r.ob _ _ e
      exact .base (.dK d.1)
  · subst h
    obtain ⟨a, us, rfl, s, q⟩ := p
    rcases s with (s | ⟨o, s⟩) | ⟨o, its, n, s, c, _⟩
    · exact .base (.tup s)
    · exact .fTuple s
    · exact .kTuple s c
  · subst h
    obtain ⟨a, us, rfl, s, q⟩ := p
    rcases s with ⟨o, s⟩ | ⟨o, its, n, s, c, _⟩
    · exact .base (.frz s)
    · exact .kList s c
end
section
variable {X : Cx} {T : List (Addr × Str)} {Wx : WX} {pos : Pos}
theorem me_isi (u : Ty) {x : Str} {p p2 : Pos} {e : Expr} {m : ME} (hm : X.mg "isinstance" = none) (hx : X.mg x = none) (ha : PE X e (Lf X.K T Wx m)) (hne : u ≠ .non := by decide)
    (hg : Gl X "isinstance" := by rfl) (hgx : Gl X x := by rfl) (hv : bootBuiltins x = some (.type u.name) := by decide +kernel) (hn : x ≠ "__name__" := by decide) (hd : (x == ("__debug__" : Str)) = false := by decide)
    (he : starEach [e, .Name x p2] X.env = (false, eval e X.env) :: starEach [.Name x p2] X.env := by rfl) (he2 : starEach [.Name x p2] X.env = (false, eval (.Name x p2) X.env) :: starEach [] X.env := by rfl) (hpl : (backTo pos (starEach [.Name x p2] X.env)).any (·.1) = false := by rfl) :
    PE X (.Call (.Name "isinstance" p) [e, .Name x p2] [] pos) (Lf X.K T Wx (mIsi u m)) := by
  refine PE.wk (pe_callB call_isi hg hm (by decide +kernel) (pa_cons ha (pa_cons (pe_bltn (v := .ty u.name) hgx hx hv rfl hn hd) pa_nil he2) he) (by decide) (by decide) he hpl) fun σ H Q h => ?_
  obtain ⟨RX, e, M, R, b, h, k⟩ := h
  refine one_ok b h fun w M1 v H1 x1 r1 p1 h1 => ?_
  split at h1
  · rename_i t ht
    exact ⟨v, .ty u.name, .type t.name, .type u.name, _, rfl, .ty _, tyW_ok r1 p1 ht, kit_ty (kit_isT t u hne), k _ M1 _ H1 x1 r1 (by simp only [Rep]) h1⟩
  · exact h1.elim
/-! ### len, list, tuple, int, abs, min, max -/
def fLen : List W → Mh → MK → Prop := fun ws M R => match ws with
  | [w] => match items M w with
    | some xs => R (.int xs.length) M
    | none => match w with
      | .str z => z.length ≤ sizeLine ∧ R (.int z.length) M
      | .ref a => match M a with
        | some (.dct kvs) => R (.int kvs.length) M
        | _ => False
      | _ => False
  | _ => False
def rLenM (K : PySem.W.Frag) : List V → Hp → VK → Prop := fun xs H Q => (∃ p ys, xs = [.ref p] ∧ (SqL K H p ys ∨ SqT K H p ys) ∧ Q (.int ys.length) H) ∨ (∃ z, xs = [.str z] ∧ z.length ≤ sizeLine ∧ Q (.int z.length) H) ∨ ∃ a kvs, xs = [.ref a] ∧ H a = some (.dK kvs) ∧ Q (.int kvs.length) H
theorem call_lenM : CallR X (.builtin "len") (rLenM X.K) := by
  intro pins s σ H xs us Q I r h
  rcases h with h | h | ⟨a, kvs, rfl, e, q⟩
  · exact call_len_seq pins s σ H xs us Q I r h
  · exact call_len_str pins s σ H xs us Q I r h
  · rw [Vals.ref1 r]
    exact d_len I (.inl e) fun t s' I' => ⟨.int _, H, I', ⟨t, rfl⟩, q⟩
theorem mf_len : FnM X T (rLenM X.K) fLen := by
  intro ws M R vs H Q r p h k
  unfold fLen at h
  split at h
  · rename_i w
    obtain ⟨v, vr, rfl, p1, p2⟩ := p.cons_inv
    rw [p2.nil_inv]
    split at h
    · rename_i xs e
      obtain ⟨a, us, rfl, s, q⟩ := items_ok r p1 e
      exact .inl ⟨a, us, rfl, s, by rw [q.length]; exact k _ M _ H Ext.refl r (by simp only [Rep]) h⟩
    · cases w with
      | str z =>
        simp only [Rep] at p1
        subst p1
        exact .inr (.inl ⟨z, rfl, h.1, k _ M _ H Ext.refl r (by simp only [Rep]) h.2⟩)
      | ref a =>
        simp only at h
        split at h
        · rename_i kvs e
          simp only [Rep] at p1
          subst p1
          obtain ⟨us, e2, q⟩ := r.ob a _ e
          exact .inr (.inr ⟨a, us, rfl, e2, by rw [q.length]; exact k _ M _ H Ext.refl r (by simp only [Rep]) h⟩)
        · exact h.elim
      | _ => exact h.elim
  · exact h.elim
/-- one of a list or tuple -/
def fList : List W → Mh → MK → Prop := fun ws M R => match ws with
  | [w] => match items M w with
    | some xs => ∀ p, M p = none → R (.ref p) (updM M p (.lst xs))
    | none => False
  | _ => False
theorem mf_list : FnM X T (fun xs H Q => ∃ p ys, xs = [.ref p] ∧ (SqL X.K H p ys ∨ SqT X.K H p ys) ∧ ∀ l, H l = none → Q (.ref l) (upd H l (.lst ys))) fList := by
  intro ws M R vs H Q r p h k
  unfold fList at h
  split at h
  · rename_i w
    obtain ⟨v, vr, rfl, p1, p2⟩ := p.cons_inv
    rw [p2.nil_inv]
    split at h
    · rename_i xs e
      obtain ⟨a, us, rfl, s, q⟩ := items_ok r p1 e
      exact ⟨a, us, rfl, s, fun l hl => k _ _ _ _ (Ext.newL r hl) (r.newL hl q) (by simp only [Rep]) (h l (r.free hl))⟩
    · exact h.elim
  · exact h.elim
def fTuple : List W → Mh → MK → Prop := fun ws M R => match ws with
  | [w] => match items M w with
    | some xs => R (.tup xs) M
    | none => False
  | _ => False
theorem mf_tuple : FnM X T (fun xs H Q => ∃ p ys, xs = [.ref p] ∧ ((SqL X.K H p ys ∧ ∀ l, H l = none → Q (.ref l) (upd H l (.tup ys))) ∨ (SqT X.K H p ys ∧ Q (.ref p) H))) fTuple := by
  intro ws M R vs H Q r p h k
  unfold fTuple at h
  split at h
  · rename_i w
    obtain ⟨v, vr, rfl, p1, p2⟩ := p.cons_inv
    rw [p2.nil_inv]
    split at h
    · rename_i xs e
      obtain ⟨a, us, rfl, s, q⟩ := items_ok r p1 e
      refine ⟨a, us, rfl, ?_⟩
      rcases s with s | s
      · exact .inl ⟨s, fun l hl => k _ M _ _ (Ext.hid r hl) (r.hid hl) (by simp only [Rep]; exact ⟨l, us, rfl, .inl (.inl upd_same), q.grow (Grow.new hl)⟩) h⟩
      · exact .inr ⟨s, k _ M _ H Ext.refl r (by simp only [Rep]; exact ⟨a, us, rfl, s, q⟩) h⟩
    · exact h.elim
  · exact h.elim
def fI1 (g : Int → Int) : List W → Mh → MK → Prop := fun ws M R => match ws with
  | [.int i] => R (.int (g i)) M
  | _ => False
def fI2 (g : Int → Int → Int) : List W → Mh → MK → Prop := fun ws M R => match ws with
  | [.int i, .int j] => R (.int (g i j)) M
  | _ => False
theorem mf_abs : FnM X T (fun xs H Q => ∃ i, xs = [.int i] ∧ Q (.int (if i < 0 then -i else i)) H) (fI1 fun i => if i < 0 then -i else i) := by
  intro ws M R vs H Q r p h k
  unfold fI1 at h
  split at h
  · obtain ⟨v, vr, rfl, p1, p2⟩ := p.cons_inv
    simp only [Rep] at p1
    rw [p2.nil_inv, p1]
    exact ⟨_, rfl, k _ M _ H Ext.refl r (by simp only [Rep]) h⟩
  · exact h.elim
theorem mf_int : FnM X T (fun xs H Q => (∃ i, xs = [.int i] ∧ Q (.int i) H) ∨ ∃ k, xs = [.bl k] ∧ Q (.int (if k then 1 else 0)) H) (fI1 fun i => i) := by
  intro ws M R vs H Q r p h k
  unfold fI1 at h
  split at h
  · obtain ⟨v, vr, rfl, p1, p2⟩ := p.cons_inv
    simp only [Rep] at p1
    rw [p2.nil_inv, p1]
    exact .inl ⟨_, rfl, k _ M _ H Ext.refl r (by simp only [Rep]) h⟩
  · exact h.elim
theorem mf_i2 {g : Int → Int → Int} {r : List V → Hp → VK → Prop} (hr : ∀ xs H Q, (∃ i j, xs = [V.int i, V.int j] ∧ Q (V.int (g i j)) H) → r xs H Q) : FnM X T r (fI2 g) := by
  intro ws M R vs H Q r p h k
  unfold fI2 at h
  split at h
  · obtain ⟨v, vr, rfl, p1, p2⟩ := p.cons_inv
    obtain ⟨v2, vr2, rfl, p3, p4⟩ := p2.cons_inv
    simp only [Rep] at p1 p3
    rw [p4.nil_inv, p1, p3]
    exact hr _ _ _ ⟨_, _, rfl, k _ M _ H Ext.refl r (by simp only [Rep]) h⟩
  · exact h.elim
theorem mf_max : FnM X T (fun xs H Q => ∃ i j, xs = [.int i, .int j] ∧ Q (.int (if j > i then j else i)) H) (fI2 fun i j => if j > i then j else i) := mf_i2 fun _ _ _ h => h
theorem mf_min : FnM X T (fun xs H Q => ∃ i j, xs = [.int i, .int j] ∧ Q (.int (if j < i then j else i)) H) (fI2 fun i j => if j < i then j else i) := mf_i2 fun _ _ _ h => h
/-! ### sorted(d), d a dict with int keys -/
def intKeys : List (Key × W) → Option (List Int)
  | [] => some []
  | (.inl i, _) :: r => (intKeys r).map (i :: ·)
  | _ => none
def fSortD : List W → Mh → MK → Prop := fun ws M R => match ws with
  | [.ref a] => match M a with
    | some (.dct kvs) => match intKeys kvs with
      | some ks => ks.length < 64 ∧ ∀ (ys : List Int) (p : Addr), ys.Perm ks → ys.Pairwise (· ≤ ·) → M p = none → R (.ref p) (updM M p (.lst (ys.map W.int)))
      | none => False
    | _ => False
  | _ => False
theorem intKeys_ok {K : PySem.W.Frag} {H : Hp} : ∀ {kvs : List (Key × W)} {us : List (Key × V)} {ks : List Int}, RepF K H kvs us → intKeys kvs = some ks → us.map (·.1) = ks.map Sum.inl
  | [], us, ks, h, e => by
    have h : us = [] := h
    subst h
    simp only [intKeys, Option.some.injEq] at e
    subst e; rfl
  | (.inl i, w) :: r, us, ks, h, e => by
    obtain ⟨u, q, rfl, a, b⟩ := h
    simp only [intKeys, Option.map_eq_some_iff] at e
    obtain ⟨ks', e', rfl⟩ := e
    rw [List.map_cons, List.map_cons, intKeys_ok b e']
  | (.inr i, w) :: r, us, ks, h, e => by simp [intKeys] at e
theorem mf_sortD : FnM X T (fun xs H Q => ∃ (a : Addr) (kvs : List (Key × V)) (ks : List Int), xs = [.ref a] ∧ Rd H a (.dK kvs) ∧ kvs.map (·.1) = ks.map Sum.inl ∧ ks.length < 64 ∧
    ∀ (ys : List Int) (p : Addr), ys.Perm ks → ys.Pairwise (· ≤ ·) → H p = none → Q (.ref p) (upd H p (.lst (ys.map V.int)))) fSortD := by
  intro ws M R vs H Q r p h k
  unfold fSortD at h
  split at h
  · rename_i a
    split at h
    · rename_i kvs e
      split at h
      · rename_i ks ek
        obtain ⟨v, vr, rfl, p1, p2⟩ := p.cons_inv
        simp only [Rep] at p1
        rw [p2.nil_inv, p1]
        obtain ⟨us, e2, q⟩ := r.ob a _ e
        exact ⟨a, us, ks, rfl, .inl e2, intKeys_ok q ek, h.1, fun ys l h1 h2 hl => k _ _ _ _ (Ext.newL r hl) (r.newL hl Reps.ints) (by simp only [Rep]) (h.2 ys l h1 h2 (r.free hl))⟩
      · exact h.elim
    · exact h.elim
  · exact h.elim
/-! ### items, slices -/
theorem Reps.atI {K : PySem.W.Frag} {H : Hp} {ws : List W} {us : List V} {i : Int} {w : W} (p : Reps K H ws us) (h : atI ws i = some w) : ∃ v, L2.atI us i = some v ∧ Rep K H w v := by
  unfold L2.atI at h ⊢
  rw [p.length]
  cases e : ixN ws.length i with
  | none => rw [e] at h; cases h
  | some j =>
    rw [e] at h
    exact p.get h
def fIx : W → W → Mh → MK → Prop := fun x y M R => match items M x, y with
  | some ws, .int i => match atI ws i with
    | some w => R w M
    | none => False
  | _, _ => False
def rIxM (K : PySem.W.Frag) : R2 := fun x y H Q => rIxL K x y H Q ∨ rIxT K x y H Q
theorem ix_M : IxR X (rIxM X.K) := ix_list.or ix_tup
theorem mo_ix : OpM X T (rIxM X.K) fIx := by
  intro x y M R v u H Q r p1 p2 h k
  unfold fIx at h
  split at h
  · rename_i ws i e
    split at h
    · rename_i w hw
      obtain ⟨a, us, rfl, s, q⟩ := items_ok r p1 e
      simp only [Rep] at p2
      subst p2
      obtain ⟨z, h1, h2⟩ := q.atI hw
      have fin := k w M z H Ext.refl r h2 h
      rcases s with s | s
      · exact .inl ⟨a, us, i, z, rfl, rfl, s, h1, fin⟩
      · exact .inr ⟨a, us, i, z, rfl, rfl, s, h1, fin⟩
    · exact h.elim
  · exact h.elim
theorem me_ix {a b : Expr} {ma mb : ME} (ha : PE X a (Lf X.K T Wx ma)) (hb : PE X b (Lf X.K T Wx mb)) (hs : PlainIx b := by exact fun _ _ => rfl) : PE X (.Subscript a b pos) (Lf X.K T Wx (mOp fIx ma mb)) := by
  refine PE.wk (pe_ix ix_M ha hb hs) fun σ H Q h => ?_
  obtain ⟨RX, e, M, R, b, h, k⟩ := h
  exact two_ok b h fun x y M2 v u H2 x2 r2 p1 p2 h2 => mo_ix x y M2 R v u H2 Q r2 p1 p2 h2 fun w M' v' H' x3 => k w M' v' H' (x2.trans x3)
def mPart (o : Option ME) : MX → MEnv → Mh → (Option Int → Mh → Prop) → Prop := match o with
  | none => fun _ _ M R => R none M
  | some m => fun RX e M R => m RX e M fun w M1 => match w with
    | .int i => R (some i) M1
    | _ => False
def LfO (K : PySem.W.Frag) (T : List (Addr × Str)) (Wx : WX) (o : Option ME) : TO := match o with
  | none => tNoPart
  | some m => tPart (Lf K T Wx m)
theorem mo_none : PO X none (LfO X.K T Wx none) := po_none
theorem mo_some {e : Expr} {m : ME} (h : PE X e (Lf X.K T Wx m)) : PO X (some e) (LfO X.K T Wx (some m)) := po_some h
theorem part_ok {K : PySem.W.Frag} {σ : L2.St} {H : Hp} {RX : MX} {e : MEnv} {M : Mh} {o : Option ME} {R : Option Int → Mh → Prop} {Q : Option Int → Hp → Prop} (b : Base K T Wx σ H RX e M) (h : mPart o RX e M R) (k : ∀ i M' H', Ext M H M' H' → Rel K T M' H' → R i M' → Q i H') : LfO K T Wx o σ H Q := by
  cases o with
  | none => exact k none M H Ext.refl b.rel h
  | some m =>
    refine one_ok b h fun w M1 v H1 x1 r1 p1 h1 => ?_
    split at h1
    · simp only [Rep] at p1
      exact ⟨_, p1, k _ M1 H1 x1 r1 h1⟩
    · exact h1.elim
def cutW (ws : List W) (lo hi : Option Int) : List W := (ws.drop (HT.sIx ws.length 0 lo)).take (HT.sIx ws.length ws.length hi - HT.sIx ws.length 0 lo)
theorem cut_rep {K : PySem.W.Frag} {H : Hp} {ws : List W} {us : List V} (p : Reps K H ws us) (lo hi : Option Int) : Reps K H (cutW ws lo hi) (cutV us lo hi) := by
  unfold cutW cutV
  rw [p.length]
  exact (p.drop _).take _
def fSl (x : W) (lo hi : Option Int) (M : Mh) (R : MK) : Prop := match x with
  | .tup ws => R (.tup (cutW ws lo hi)) M
  | .ref a => match M a with
    | some (.lst ws) => ∀ p, M p = none → R (.ref p) (updM M p (.lst (cutW ws lo hi)))
    | _ => False
  | _ => False
def mSl (m : ME) (lo hi : Option ME) : ME := fun RX e M R => m RX e M fun x M1 => mPart lo RX e M1 fun l M2 => mPart hi RX e M2 fun u M3 => fSl x l u M3 R
theorem cut_whole {ws : List W} {lo hi : Option Int} (h : HT.sIx ws.length 0 lo = 0 ∧ HT.sIx ws.length ws.length hi = ws.length) : cutW ws lo hi = ws := by
  unfold cutW
  rw [h.1, h.2, List.drop_zero, Nat.sub_zero, List.take_length]
theorem me_slice {e : Expr} {lo hi : Option Expr} {m : ME} {ml mh : Option ME} {p2 : Pos} (he : PE X e (Lf X.K T Wx m)) (hl : PO X lo (LfO X.K T Wx ml)) (hu : PO X hi (LfO X.K T Wx mh)) : PE X (.Subscript e (.Slice lo hi none p2) pos) (Lf X.K T Wx (mSl m ml mh)) := by
  refine PE.wk (pe_slice (sl_list.or sl_tupA) he hl hu) fun σ H Q h => ?_
  obtain ⟨RX, e, M, R, b, h, k⟩ := h
  refine one_ok b h fun x M1 v H1 x1 r1 p1 h1 => ?_
  refine part_ok (b.next x1 r1) h1 fun l M2 H2 x2 r2 h2 => ?_
  refine part_ok ((b.next x1 r1).next x2 r2) h2 fun u M3 H3 x3 r3 h3 => ?_
  have p3 := (p1.grow x2.grow).grow x3.grow
  have x13 := (x1.trans x2).trans x3
  unfold fSl at h3
  split at h3
  · rename_i ws
    have pt := p3
    simp only [Rep] at p3
    obtain ⟨a, us, rfl, s, q⟩ := p3
    refine .inr ⟨a, us, rfl, s, fun z => ?_, fun _ p hp => ?_⟩
    · rw [q.length] at z
      exact k _ M3 _ H3 x13 r3 (by rw [cut_whole z]; exact pt) h3
    · exact k _ M3 _ _ (x13.trans (Ext.hid r3 hp)) (r3.hid hp) (by simp only [Rep]; exact ⟨p, _, rfl, .inl (.inl upd_same), (cut_rep q l u).grow (Grow.new hp)⟩) h3
  · rename_i a
    simp only [Rep] at p3
    subst p3
    split at h3
    · rename_i ws e
      obtain ⟨us, e2, q⟩ := r3.ob a _ e
      exact .inl ⟨a, us, rfl, .inl (.inl e2), fun p hp => k _ _ _ _ (x13.trans (Ext.newL r3 hp)) (r3.newL hp (cut_rep q l u)) (by simp only [Rep]) (h3 p (r3.free hp))⟩
    · exact h3.elim
  · exact h3.elim
end
end ML


set_option Elab.async false
set_option linter.all false
set_option maxRecDepth 100000
set_option maxHeartbeats 2000000
/-! enumerate of a tuple, from any count -/
namespace PySem
open Sem (wp)
theorem enumT_made {v : Value} {o : Obj} {H : Heap → Prop} (B : Begins v o H) : Meets (Builtin.«enumerate.__new__» ⟨[.type "enumerate", v], []⟩) (fun _ R s => H s.heap ∧
      R (.ok (.ret (.ref (s.heap.push o).objs.size)))
        { s with heap := (s.heap.push o).push { cls := .type "enumerate", data := .fields #[.none, .bool false, .ref s.heap.objs.size, rawInt 0, .none, .none] } }) := by
  refine .of_wp fun prog w A R s hh => ?_
  rcases s with ⟨hp, g, d, tk, os⟩
  rcases hh with ⟨hB, fin⟩
  have subE := sub_enumerate
  have step : ∀ {A' : Around} {E : Value → Shared → Prop} {Q : Value → Shared → Prop}, Q (.ref hp.objs.size) ⟨hp.push o, g, d, tk, os⟩ → wpAny (model prog w) A' (pyIter v) Q E ⟨hp, g, d, tk, os⟩ := fun q => B.iter prog w _ _ ⟨hp, g, d, tk, os⟩ _ hB q
  wp_walk using step
  refine wpAny_stack_any fun st => wpAny_pure ?_
  split
  · rename_i c _ _ _ _ _
    cases (c == Value.type "enumerate") <;> (wp_walk using step; exact ⟨_, rfl, fin⟩)
  · wp_walk using step
    exact ⟨_, rfl, fin⟩
theorem enumT_call {prog : Program} {w : World} {A : Around} {E : Value → Shared → Prop} {s : Shared} {v : Value} {o : Obj} {H : Heap → Prop} {Q : Value → Shared → Prop} (B : Begins v o H) (hB : H s.heap)
    (fin : ∀ h', IsEnum h' (s.heap.objs.size + 1) s.heap.objs.size 0 .none → h'.get? s.heap.objs.size = some o → (∀ b u, s.heap.get? b = some u → h'.get? b = some u) → Q (.ref (s.heap.objs.size + 1)) { s with heap := h' }) :
    wpAny (model prog w) A (call (.type "enumerate") [v]) Q E s := by
  have size1 : (s.heap.push o).objs.size = s.heap.objs.size + 1 := Heap.size_push ..
  refine callType_new F.called_enumerate (by decide) (F.typeCall_enumerate_1 _) (F.newCall_enumerate_1 _) (fun ob => F.args_object_init_2 ob _) F.entry_enumerate_new (enumT_made B) ⟨hB, ?_⟩
  refine ⟨⟨_, Heap.get?_push_size _ rfl, rfl⟩, ?_⟩
  rw [size1]
  refine fin _ ?_ (Heap.get?_push_of_some _ (Heap.get?_push_size _ B.free)) fun b u q => Heap.get?_push_of_some _ (Heap.get?_push_of_some _ q)
  have z := Heap.get?_push_size (s.heap.push o) (o := { cls := .type "enumerate", data := .fields #[.none, .bool false, .ref s.heap.objs.size, rawInt 0, .none, .none] }) rfl
  rw [size1] at z
  exact z
end PySem
namespace ML
open PySem PySem.Spec PyProof.Rows L2
/-- the tuple at a, each item in a new pair behind its number from k on -/
def ItE (K : PySem.W.Frag) (a : Addr) (k : Int) : It where
  go := fun i H => ∃ (xs : List V) (x : V), SqT K H a xs ∧ xs[i]? = some x
  yld := fun i H v H' => ∃ t x, v = .ref t ∧ H t = none ∧ H' = upd H t (.tup [.int (k + (i : Nat)), x]) ∧ ∀ xs, SqT K H a xs → xs[i]? = some x
  stop := fun i H => ∃ xs : List V, SqT K H a xs ∧ xs.length = i
theorem turn_enumT {P : Program} {w : World} {K : PySem.W.Frag} {elts : List Expr} {kk : Nat} {tpos : Pos} (a e it : Addr) (k : Int) :
    Turn P w K (.Tuple elts kk tpos) (ItE K a k) [e, it] e (fun i h => (∃ old, IsEnum h e it (k + (i : Nat)) old) ∧ h.IsTupleIter it a i ∧ e ≠ it) where
  mem := List.mem_cons_self
  obj := by
    rintro i h ⟨⟨old, h1⟩, ⟨ob, h2, _, h3⟩, _⟩ b hb
    simp only [List.mem_cons, List.not_mem_nil, or_false] at hb
    rcases hb with rfl | rfl
    · exact ⟨_, h1, fun v z => nomatch z⟩
    · refine ⟨ob, h2, fun v z => ?_⟩
      rw [h3] at z; cases z
  keep := by
    rintro i h h' ⟨⟨old, h1⟩, h2, h3⟩ kp
    exact ⟨⟨old, kp e (by simp) _ h1⟩, h2.at fun o q => kp it (by simp) o q, h3⟩
  item := by
    intro X hP hw hK hc i pins s σ H E I hf st hg
    subst hP hw hK
    obtain ⟨⟨old, isE⟩, isT, ne⟩ := st
    obtain ⟨xs, x, sq, xi⟩ := hg
    obtain ⟨its, rv, tp, _⟩ := I.tuple sq
    have ltE : e < s.heap.objs.size := Heap.lt_size isE
    have ltI : it < s.heap.objs.size := by obtain ⟨_, q, _⟩ := isT; exact Heap.lt_size q
    have neI : a ≠ it := by
      rintro rfl
      obtain ⟨o1, q1, c1, _⟩ := tp
      obtain ⟨o2, q2, c2, _⟩ := isT
      rw [q1] at q2; cases q2
      rw [c1] at c2
      exact absurd (Value.type.inj c2) (by decide)
    have neE : a ≠ e := by
      rintro rfl
      obtain ⟨o1, q1, c1, _⟩ := tp
      have isE' : s.heap.get? a = _ := isE
      rw [q1] at isE'; cases isE'
      exact absurd (Value.type.inj c1) (by decide)
    have D := Draws.tuple (prog := X.prog) (w := X.w) (A := X.A.in1) (I.ok.hd hc) it a neI its.toArray
    have small : i < its.toArray.size := by
      have := rv.length
      have := (List.getElem?_eq_some_iff.mp xi).1
      rw [List.size_toArray]; omega
    refine wpAny_pyNext_enum_itemC D isE ⟨isT, tp⟩ small ne (by simp only [List.mem_cons, List.not_mem_nil, or_false, not_or]; exact ⟨ne, Ne.symm neE⟩) fun y h' tk yi out st' tpl sz kp => ?_
    refine ⟨_, rfl, wpAny_letOwnedTupleGo_enum (s := { s with heap := h', toks := tk + 1 }) out fun h2 isE2 same => ?_⟩
    obtain ⟨u, hu, ru⟩ := rv.get xi
    have ey : y = u := by
      have q : its.toArray[i]? = some y := yi
      rw [List.getElem?_toArray, hu] at q
      exact (Option.some.inj q).symm
    subst ey
    have tpl2 : h2.get? s.heap.objs.size = some { cls := .type "tuple", data := .seq #[.int (k + (i : Nat)) tk, y] } := (same.2 _ (Nat.ne_of_gt ltE)).trans tpl
    have good : ObjOk X.prog X.w (upd H s.heap.objs.size (.tup [.int (k + (i : Nat)), x])) h2 s.heap.objs.size (.tup [.int (k + (i : Nat)), x]) :=
      ⟨small_line (n := 2) (by decide), [.int (k + (i : Nat)) tk, y], .cons ⟨_, rfl⟩ (.cons ru .nil), ⟨_, tpl2, rfl, _, rfl⟩⟩
    have J : Inv X pins σ (upd H s.heap.objs.size (.tup [.int (k + (i : Nat)), x])) { s with heap := h2, toks := tk + 1 } := by
      refine I.turnedNew (ch := [e, it]) (fun b ob hb q => ?_) hf (Nat.le_refl _) good
      simp only [List.mem_cons, List.not_mem_nil, or_false, not_or] at hb
      exact (same.2 b hb.1).trans (kp b ob hb.1 hb.2 q)
    refine ⟨.ref s.heap.objs.size, _, J, rfl, ⟨_, x, rfl, I.hok.fresh (Nat.le_refl _), rfl, fun ys hy => by rw [I.tuple_inj hy sq]; exact xi⟩, ⟨⟨y, ?_⟩, st'.1.at fun o q => (same.2 it (Ne.symm ne)).trans q, ne⟩, fun b hb => ?_⟩
    · rw [show k + ((i + 1 : Nat) : Int) = k + (i : Nat) + 1 by omega]
      exact isE2
    · have lt : b < s.heap.objs.size := by
        simp only [List.mem_cons, List.not_mem_nil, or_false] at hb
        rcases hb with rfl | rfl
        · exact ltE
        · exact ltI
      rw [upd_ne (Nat.ne_of_lt lt)]
      exact (hf b hb).1
  done := by
    intro X hP hw hK hc i pins s σ H E I hf st hg
    subst hP hw hK
    obtain ⟨⟨old, isE⟩, isT, ne⟩ := st
    obtain ⟨xs, sq, le⟩ := hg
    obtain ⟨its, rv, tp, _⟩ := I.tuple sq
    have neI : a ≠ it := by
      rintro rfl
      obtain ⟨o1, q1, c1, _⟩ := tp
      obtain ⟨o2, q2, c2, _⟩ := isT
      rw [q1] at q2; cases q2
      rw [c1] at c2
      exact absurd (Value.type.inj c2) (by decide)
    obtain ⟨f0, f1, f2, f3, f4, f5⟩ := hf it (by simp)
    have D := Draws.tuple (prog := X.prog) (w := X.w) (A := X.A.in1) (I.ok.hd hc) it a neI its.toArray
    have en : i = its.toArray.size := by
      have := rv.length
      rw [List.size_toArray]; omega
    rw [en] at isT isE
    exact wpAny_pyNext_enum_endD D isE ⟨isT, tp⟩ fun h' eb => ⟨rfl, I.turned (t' := s.toks) (fun b o hb q => eb b o hb q) f0 f1 f3 f4 f5⟩
  self := fun A i s Q E st h => by
    obtain ⟨⟨_, isE⟩, _⟩ := st
    exact wpAny_pyIter_enum isE h
end ML


set_option Elab.async false
set_option linter.all false
set_option maxRecDepth 100000
set_option maxHeartbeats 2000000
namespace ML
open PySem PySem.Spec PyProof.Rows L2
/-! ### targets -/
inductive Tg where
  | nm (i : Nat)
  | tp (is : List Nat)
def setAll : MEnv → List Nat → List W → MEnv
  | e, i :: is, w :: ws => setAll (e.set i (some w)) is ws
  | e, _, _ => e
def bindT : Tg → W → MEnv → Option MEnv
  | .nm i, w, e => some (e.set i (some w))
  | .tp is, .tup ws, e => if ws.length = is.length then some (setAll e is ws) else none
  | _, _, _ => none
def GOk (K : PySem.W.Frag) (tg : Tg) (g : TG) : Prop := ∀ (w : W) (v : V) (e e1 : MEnv) (σ : L2.St) (H : Hp) (Q : L2.St → Hp → Prop), bindT tg w e = some e1 → Rep K H w v → RepE K H e σ → (∀ σ', RepE K H e1 σ' → Q σ' H) → g v σ H Q
def gAll : List Nat → TGs
  | [] => gNil
  | i :: is => gCons (gName i) (gAll is)
theorem gok_nm {K : PySem.W.Frag} (i : Nat) : GOk K (.nm i) (gName i) := fun w v e e1 σ H Q h p r k => by
  simp only [bindT, Option.some.injEq] at h
  subst h
  exact k _ (r.set p i)
theorem gall_ok {K : PySem.W.Frag} {H : Hp} {Q : L2.St → Hp → Prop} : ∀ {is : List Nat} {ws : List W} {vs : List V} {e : MEnv} {σ : L2.St}, ws.length = is.length → Reps K H ws vs → RepE K H e σ → (∀ σ', RepE K H (setAll e is ws) σ' → Q σ' H) → gAll is vs σ H Q
  | [], [], vs, e, σ, _, p, r, k => ⟨p.nil_inv, k σ r⟩
  | i :: is, w :: ws, vs, e, σ, hl, p, r, k => by
    obtain ⟨u, q, rfl, a, b⟩ := p.cons_inv
    exact ⟨u, q, rfl, gall_ok (by simpa using hl) b (r.set a i) k⟩
  | [], _ :: _, _, _, _, hl, _, _, _ => by simp at hl
  | _ :: _, [], _, _, _, hl, _, _, _ => by simp at hl
theorem gok_tp {K : PySem.W.Frag} (is : List Nat) {n : Nat} (hn : is.length = n) : GOk K (.tp is) (gTup K n (gAll is)) := fun w v e e1 σ H Q h p r k => by
  cases w with
  | tup ws =>
    simp only [bindT] at h
    split at h
    · rename_i hl
      simp only [Option.some.injEq] at h
      subst h
      simp only [Rep] at p
      obtain ⟨a, us, rfl, s, q⟩ := p
      exact ⟨a, us, rfl, s, by rw [q.length, hl, hn], gall_ok hl q r k⟩
    · cases h
  | _ => simp [bindT] at h
/-! ### statements -/
def mNext : MS := fun _ D e M => D.nx e M
def mSeq (s t : MS) : MS := fun RX D e M => s RX { D with nx := fun e' M' => t RX D e' M' } e M
def mAsg (m : ME) (tg : Tg) : MS := fun RX D e M => m RX e M fun w M1 => match bindT tg w e with
  | some e1 => D.nx e1 M1
  | none => False
def mDrop (m : ME) : MS := fun RX D e M => m RX e M fun _ M1 => D.nx e M1
def mRet (m : ME) : MS := fun RX D e M => m RX e M D.rt
def mRetN : MS := fun _ D _ M => D.rt .non M
def mIfS (t : MT) (a b : MS) : MS := fun RX D e M => t RX e M fun c M1 => if c = true then a RX D e M1 else b RX D e M1
def mBrk : MS := fun _ D e M => D.bk e M
def mCnt : MS := fun _ D e M => D.ct e M
def mRaise (C : Addr) : MS := fun RX _ _ M => RX C M
def mWhile (t : MT) (b : MS) : MS := fun RX D e M => ∃ I : Nat → MEnv → Mh → Prop, (∃ n, I n e M) ∧ ∀ n e M, I n e M → t RX e M fun c M1 =>
  if c = true then b RX { D with nx := fun e' M' => ∃ n', n' < n ∧ I n' e' M', ct := fun e' M' => ∃ n', n' < n ∧ I n' e' M', bk := D.nx } e M1 else D.nx e M1
section
variable {X : Cx} {T : List (Addr × Str)} {Wx : WX} {pos : Pos} {D : Ends} {st : Stmt} {rest : List Stmt} {s t : MS}
theorem mss_nil : PSs X [] (LfS X.K T Wx mNext) := by
  refine PSs.wk pss_nil fun D σ H h => ?_
  obtain ⟨RX, e, M, DM, b, h, k⟩ := h
  exact k.nx e M σ H Ext.refl b.env b.rel h
theorem mss_one (h : PS X st (LfS X.K T Wx s)) : PSs X [st] (LfS X.K T Wx s) := pss_one h
theorem mss_cons (h : PS X st (LfS X.K T Wx s)) (h' : PSs X rest (LfS X.K T Wx t)) : PSs X (st :: rest) (LfS X.K T Wx (mSeq s t)) := by
  refine PSs.wk (pss_cons h h') fun D σ H h => ?_
  obtain ⟨RX, e, M, DM, b, h, k⟩ := h
  refine ⟨RX, e, M, _, b, h, ⟨fun e' M' σ' H' x r' r q => ?_, k.rt, k.bk, k.ct⟩⟩
  exact ⟨RX, e', M', DM, ⟨r', r, fun C M2 σ2 H2 x2 r2 q2 => b.exc C M2 σ2 H2 (x.trans x2) r2 q2⟩, q, k.next x⟩
/-- name = e -/
theorem ms_set {x : Str} {e : Expr} {m : ME} {pos' : Pos} (i : Nat) (hN : X.N.Nodup) (he : PE X e (Lf X.K T Wx m)) (hi : X.N[i]? = some x := by rfl) (hx : Loc X.env.scope x := by first | exact Or.inl rfl | exact Or.inr rfl) (hs : swapsWith e (some (.Name x pos')) pos.line X.env = pure false := by rfl)
    (hf : X.fn x = true ∨ X.env.scope.names.lookup x = some .local := by first | exact .inl rfl | exact .inr rfl | assumption) : PS X (.Assign [.Name x pos'] e pos) (LfS X.K T Wx (mAsg m (.nm i))) := by
  refine PS.wk (ps_set hN hi hx he hs hf) fun D σ H h => ?_
  obtain ⟨RX, e, M, DM, b, h, k⟩ := h
  refine one_ok b h fun w M1 v H1 x1 r1 p1 h1 => ?_
  exact k.nx _ M1 _ H1 x1 ((b.env.grow x1.grow).set p1 i) r1 h1
/-- target = e -/
theorem ms_asg {tg e : Expr} {m : ME} {tgt : Tg} {g : TG} (he : PE X e (Lf X.K T Wx m)) (hg : PG X tg g) (og : GOk X.K tgt g) (hs : swapsWithSole [tg] e pos.line X.env = pure false := by rfl) (hw : swappedStores [tg] e X.env = pure none := by rfl)
    (h1 : (assignEach [tg] X.env).map (·.2) = [assign tg X.env] := by rfl) : PS X (.Assign [tg] e pos) (LfS X.K T Wx (mAsg m tgt)) := by
  refine PS.wk (ps_asg he hg hs hw h1) fun D σ H h => ?_
  obtain ⟨RX, e, M, DM, b, h, k⟩ := h
  refine one_ok b h fun w M1 v H1 x1 r1 p1 h1 => ?_
  split at h1
  · rename_i e1 q
    exact og w v _ e1 σ H1 _ q p1 (b.env.grow x1.grow) fun σ' z => k.nx e1 M1 σ' H1 x1 z r1 h1
  · exact h1.elim
/-- a, b = x, y -/
theorem ms_par {x y : Str} {a b : Expr} {ms : List ME} {px py pt : Pos} {kt k2 pt2} (i j : Nat) (hc : X.calm = true) (hN : X.N.Nodup) (ha : PA X [a, b] (tCh X.K T Wx ms)) (hn : ms.length = 2 := by rfl) (hij : i ≠ j := by decide) (hi : X.N[i]? = some x := by rfl) (hj : X.N[j]? = some y := by rfl)
    (hx : X.env.scope.names.lookup x = some .local := by rfl) (hy : X.env.scope.names.lookup y = some .local := by rfl)
    (hw : swappedStores [.Tuple [.Name x px, .Name y py] kt pt] (.Tuple [a, b] k2 pt2) X.env = pure (some [x, y]) := by rfl)
    (hs : swapsWithSole [.Tuple [.Name x px, .Name y py] kt pt] (.Tuple [a, b] k2 pt2) pos.line X.env = pure false := by rfl) :
    PS X (.Assign [.Tuple [.Name x px, .Name y py] kt pt] (.Tuple [a, b] k2 pt2) pos) (LfS X.K T Wx (mAsg (mTup ms) (.tp [i, j]))) := by
  refine PS.wk (ps_par hc hN hi hj hij hx hy ha hw hs) fun D σ H h => ?_
  obtain ⟨RX, e, M, DM, b, h, k⟩ := h
  refine chain_ok b h fun ws M1 vs H1 hz x1 r1 p1 h1 => ?_
  have lw : ws.length = 2 := by rw [← p1.length, hz, hn]
  match ws, lw with
  | [w1, w2], _ =>
    obtain ⟨v1, q1, rfl, a1, b1⟩ := p1.cons_inv
    obtain ⟨v2, q2, rfl, a2, b2⟩ := b1.cons_inv
    rw [b2.nil_inv]
    refine ⟨v1, v2, rfl, ?_⟩
    exact k.nx _ M1 _ H1 x1 (((b.env.grow x1.grow).set a1 i).set a2 j) r1 h1
theorem ms_par3 {x y z : Str} {a b c : Expr} {ms : List ME} {px py pz pt : Pos} {kt k2 pt2} (i j l : Nat) (hc : X.calm = true) (hN : X.N.Nodup) (ha : PA X [a, b, c] (tCh X.K T Wx ms)) (hn : ms.length = 3 := by rfl) (hij : i ≠ j := by decide) (hil : i ≠ l := by decide) (hjl : j ≠ l := by decide)
    (hi : X.N[i]? = some x := by rfl) (hj : X.N[j]? = some y := by rfl) (hl : X.N[l]? = some z := by rfl)
    (hx : X.env.scope.names.lookup x = some .local := by rfl) (hy : X.env.scope.names.lookup y = some .local := by rfl) (hz : X.env.scope.names.lookup z = some .local := by rfl)
    (hw : swappedStores [.Tuple [.Name x px, .Name y py, .Name z pz] kt pt] (.Tuple [a, b, c] k2 pt2) X.env = pure (some [x, y, z]) := by rfl)
    (hs : swapsWithSole [.Tuple [.Name x px, .Name y py, .Name z pz] kt pt] (.Tuple [a, b, c] k2 pt2) pos.line X.env = pure false := by rfl) :
    PS X (.Assign [.Tuple [.Name x px, .Name y py, .Name z pz] kt pt] (.Tuple [a, b, c] k2 pt2) pos) (LfS X.K T Wx (mAsg (mTup ms) (.tp [i, j, l]))) := by
  refine PS.wk (ps_par3 hc hN hi hj hl hij hil hjl hx hy hz ha hw hs) fun D σ H h => ?_
  obtain ⟨RX, e, M, DM, b, h, k⟩ := h
  refine chain_ok b h fun ws M1 vs H1 hz x1 r1 p1 h1 => ?_
  have lw : ws.length = 3 := by rw [← p1.length, hz, hn]
  match ws, lw with
  | [w1, w2, w3], _ =>
    obtain ⟨v1, q1, rfl, a1, b1⟩ := p1.cons_inv
    obtain ⟨v2, q2, rfl, a2, b2⟩ := b1.cons_inv
    obtain ⟨v3, q3, rfl, a3, b3⟩ := b2.cons_inv
    rw [b3.nil_inv]
    refine ⟨v1, v2, v3, rfl, ?_⟩
    exact k.nx _ M1 _ H1 x1 ((((b.env.grow x1.grow).set a1 i).set a2 j).set a3 l) r1 h1
theorem ms_expr {e : Expr} {m : ME} (he : PE X e (Lf X.K T Wx m)) (hs : swapsWith e none pos.line X.env = pure false := by rfl) : PS X (.Expr e pos) (LfS X.K T Wx (mDrop m)) := by
  refine PS.wk (ps_expr he hs) fun D σ H h => ?_
  obtain ⟨RX, e, M, DM, b, h, k⟩ := h
  exact one_ok b h fun w M1 v H1 x1 r1 p1 h1 => k.nx _ M1 _ H1 x1 (b.env.grow x1.grow) r1 h1
theorem ms_ret {e : Expr} {m : ME} (he : PE X e (Lf X.K T Wx m)) : PS X (.Return (some e) pos) (LfS X.K T Wx (mRet m)) := by
  refine PS.wk (ps_ret he) fun D σ H h => ?_
  obtain ⟨RX, e, M, DM, b, h, k⟩ := h
  exact one_ok b h fun w M1 v H1 x1 r1 p1 h1 => k.rt _ M1 _ H1 x1 r1 p1 h1
theorem ms_retN : PS X (.Return none pos) (LfS X.K T Wx mRetN) := by
  refine PS.wk ps_retN fun D σ H h => ?_
  obtain ⟨RX, e, M, DM, b, h, k⟩ := h
  exact k.rt .non M .non H Ext.refl b.rel (by simp only [Rep]) h
theorem ms_brk : PS X (.Break pos) (LfS X.K T Wx mBrk) := by
  refine PS.wk ps_break fun D σ H h => ?_
  obtain ⟨RX, e, M, DM, b, h, k⟩ := h
  exact k.bk e M σ H Ext.refl b.env b.rel h
theorem ms_cnt : PS X (.Continue pos) (LfS X.K T Wx mCnt) := by
  refine PS.wk ps_continue fun D σ H h => ?_
  obtain ⟨RX, e, M, DM, b, h, k⟩ := h
  exact k.ct e M σ H Ext.refl b.env b.rel h
theorem ms_pass : PS X (.Pass pos) (LfS X.K T Wx mNext) := by
  refine PS.wk ps_pass fun D σ H h => ?_
  obtain ⟨RX, e, M, DM, b, h, k⟩ := h
  exact k.nx e M σ H Ext.refl b.env b.rel h
theorem ms_if {c : Expr} {a b : List Stmt} {q : MT} (hc : PT X c (LfT X.K T Wx q)) (ha : PSs X a (LfS X.K T Wx s)) (hb : PSs X b (LfS X.K T Wx t)) : PS X (.If c a b pos) (LfS X.K T Wx (mIfS q s t)) := by
  refine PS.wk (ps_if hc ha hb) fun D σ H h => ?_
  obtain ⟨RX, e, M, DM, b, h, k⟩ := h
  refine ⟨RX, e, M, _, b, h, fun c M1 H1 x1 r1 h1 => ?_⟩
  cases c with
  | true => exact ⟨RX, e, M1, DM, b.next x1 r1, h1, k.next x1⟩
  | false => exact ⟨RX, e, M1, DM, b.next x1 r1, h1, k.next x1⟩
/-- raise C('..') -/
theorem ms_raise {x m : Str} {j : Nat} {p p2 pos pos2 : Pos} {C : Addr} {bmB : List Value} {B newId initId : String} (hc : X.calm = true) (tk : Takes X Wx) (F : ExcBaseFacts B newId initId bmB) (q : PySem.W.excIn X.K C bmB newId = true) (gC : X.mg x = some (.ref C)) (kC : PySem.W.keepIn X.K (.ref C) = true) (r : Raises X (.ref C)) (hg : Gl X x := by rfl)
    (hdb : (x == ("__debug__" : Str)) = false := by decide) : PS X (.Raise (some (.Call (.Name x p) [.Constant (.str m) j p2] [] pos)) none pos2) (LfS X.K T Wx (mRaise C)) := by
  refine PS.wk (ps_raise hc tk (pmk_own F q gC kC r hg hdb)) fun D σ H h => ?_
  obtain ⟨RX, e, M, DM, b, h, k⟩ := h
  exact b.exc C M σ H Ext.refl b.rel h
theorem ms_while {c : Expr} {body : List Stmt} {q : MT} (hp : PassesOwn (model X.prog X.w) X.A X.env X.xe) (hc : PT X c (LfT X.K T Wx q)) (hb : PSs X body (LfS X.K T Wx s)) : PS X (.While c body [] pos) (LfS X.K T Wx (mWhile q s)) := by
  refine PS.wk (ps_while hp hc hb) fun D σ H h => ?_
  obtain ⟨RX, e, M, DM, b, ⟨I, ⟨n0, i0⟩, step⟩, k⟩ := h
  refine ⟨fun n σ' H' => ∃ e' M', Ext M H M' H' ∧ RepE X.K H' e' σ' ∧ Rel X.K T M' H' ∧ I n e' M', ⟨n0, e, M, Ext.refl, b.env, b.rel, i0⟩, ?_⟩
  rintro n σ1 H1 ⟨e1, M1, x1, re1, r1, i1⟩
  have b1 : Base X.K T Wx σ1 H1 RX e1 M1 := ⟨re1, r1, fun C M2 σ2 H2 x2 r2 q2 => b.exc C M2 σ2 H2 (x1.trans x2) r2 q2⟩
  refine ⟨RX, e1, M1, _, b1, step n e1 M1 i1, fun c M2 H2 x2 r2 h2 => ?_⟩
  have x12 := x1.trans x2
  cases c with
  | true =>
    refine iteT ?_
    refine ⟨fun σ' H' => ∃ n' e' M', n' < n ∧ Ext M H M' H' ∧ RepE X.K H' e' σ' ∧ Rel X.K T M' H' ∧ I n' e' M', ?_, RX, e1, M2, _, b1.next x2 r2, h2, ?_⟩
    · rintro σ' H' ⟨n', e', M', lt, z1, z2, z3, z4⟩
      exact ⟨n', lt, e', M', z1, z2, z3, z4⟩
    · refine ⟨fun e' M' σ' H' x3 z1 z2 z3 => ?_, (k.next x12).rt, (k.next x12).nx, fun e' M' σ' H' x3 z1 z2 z3 => ?_⟩
      · obtain ⟨n', lt, i'⟩ := z3
        exact ⟨n', e', M', lt, x12.trans x3, z1, z2, i'⟩
      · obtain ⟨n', lt, i'⟩ := z3
        exact ⟨n', e', M', lt, x12.trans x3, z1, z2, i'⟩
  | false =>
    refine iteF ?_
    exact k.nx e1 M2 σ1 H2 x12 (re1.grow x2.grow) r2 h2
end
/-! ### what is walked -/
abbrev MI := MX → MEnv → Mh → (List W → (Mh → Prop) → Mh → Prop) → Prop
structure MWalk (K : PySem.W.Frag) (T : List (Addr × Str)) (J : It) (ws : List W) (G : Mh → Prop) (H1 : Hp) : Prop where
  goes : ∀ i M H, i < ws.length → Grow H1 H → Rel K T M H → G M → J.go i H
  stops : ∀ M H, Grow H1 H → Rel K T M H → G M → J.stop ws.length H
  yields : ∀ i M H x H', i < ws.length → Grow H1 H → Rel K T M H → G M → J.yld i H x H' → Ext M H M H' ∧ Rel K T M H' ∧ ∃ w, ws[i]? = some w ∧ Rep K H' w x
def LfI (K : PySem.W.Frag) (T : List (Addr × Str)) (Wx : WX) (mi : MI) : TI := fun σ H R => ∃ RX e M RM, Base K T Wx σ H RX e M ∧ mi RX e M RM ∧ ∀ ws G M' H' J, Ext M H M' H' → Rel K T M' H' → MWalk K T J ws G H' → RM ws G M' → R J H'
def forL (G : Mh → Prop) (tg : Tg) (b : MS) (RX : MX) (D : MEnds) : List W → MEnv → Mh → Prop
  | [], e, M => G M ∧ D.nx e M
  | w :: ws, e, M => G M ∧ match bindT tg w e with
    | some e1 => b RX { D with nx := forL G tg b RX D ws, ct := forL G tg b RX D ws, bk := D.nx } e1 M
    | none => False
def mFor (mi : MI) (tg : Tg) (b : MS) : MS := fun RX D e M => mi RX e M fun ws G M1 => forL G tg b RX D ws e M1
section
variable {X : Cx} {T : List (Addr × Str)} {Wx : WX} {pos : Pos}
theorem PI.wk {tg iter : Expr} {t t' : TI} (h : PI X tg iter t) (w : ∀ σ H R, t' σ H R → t σ H R) : PI X tg iter t' := ⟨fun pins s σ H R I q => h.run pins s σ H R I (w _ _ _ q)⟩
theorem drop_lt {ws : List W} {i : Nat} {w : W} (h : ws[i]? = some w) : ws.drop i = w :: ws.drop (i + 1) := by
  obtain ⟨hi, e⟩ := List.getElem?_eq_some_iff.mp h
  rw [List.drop_eq_getElem_cons hi, e]
theorem ms_for {tg iter : Expr} {body : List Stmt} {mi : MI} {tgt : Tg} {g : TG} {b : MS} (hp : PassesOwn (model X.prog X.w) X.A X.env X.xe) (hc : X.calm = true) (hi : PI X tg iter (LfI X.K T Wx mi)) (hg : PG X tg g) (og : GOk X.K tgt g) (hb : PSs X body (LfS X.K T Wx b))
    (hs : ∀ x, foldedSetIterable iter X.env x = pure x := by intro _; rfl) : PS X (.For tg iter body [] pos) (LfS X.K T Wx (mFor mi tgt b)) := by
  refine PS.wk (ps_for hp hc hi hg hb hs) fun D σ H h => ?_
  obtain ⟨RX, e, M, DM, b0, h, k⟩ := h
  refine ⟨RX, e, M, _, b0, h, fun ws G M1 H1 J x1 r1 wk h1 => ?_⟩
  refine ⟨fun i m σ' H' => ∃ e' M', i ≤ ws.length ∧ m = ws.length - i ∧ Ext M1 H1 M' H' ∧ RepE X.K H' e' σ' ∧ Rel X.K T M' H' ∧ forL G tgt b RX DM (ws.drop i) e' M', ⟨_, e, M1, Nat.zero_le _, rfl, Ext.refl, b0.env.grow x1.grow, r1, h1⟩, ?_⟩
  rintro i m σ2 H2 ⟨e2, M2, hi2, rfl, x2, re2, r2, f2⟩
  have x02 := x1.trans x2
  by_cases lt : i < ws.length
  · right
    have hw : ws[i]? = some ws[i] := by simp [lt]
    rw [drop_lt hw] at f2
    obtain ⟨g2, f2⟩ := f2
    refine ⟨wk.goes i M2 H2 lt x2.grow r2 g2, fun σ' H' => ∃ e' M', Ext M1 H1 M' H' ∧ RepE X.K H' e' σ' ∧ Rel X.K T M' H' ∧ forL G tgt b RX DM (ws.drop (i + 1)) e' M', ?_, ?_⟩
    · rintro σ' H' ⟨e', M', z1, z2, z3, z4⟩
      exact ⟨ws.length - (i + 1), by omega, e', M', lt, rfl, z1, z2, z3, z4⟩
    · intro x H' y
      obtain ⟨x3, r3, w, ew, p3⟩ := wk.yields i M2 H2 x H' lt x2.grow r2 g2 y
      rw [hw] at ew
      cases ew
      split at f2
      · rename_i e3 q
        refine og _ x e2 e3 σ2 H' _ q p3 (re2.grow x3.grow) fun σ3 re3 => ?_
        have b3 : Base X.K T Wx σ3 H' RX e3 M2 := ⟨re3, r3, fun C M4 σ4 H4 x4 r4 q4 => b0.exc C M4 σ4 H4 ((x02.trans x3).trans x4) r4 q4⟩
        refine ⟨RX, e3, M2, _, b3, f2, ?_⟩
        have k3 := k.next (x02.trans x3)
        exact ⟨fun e' M' σ' H' x4 z1 z2 z3 => ⟨e', M', (x2.trans x3).trans x4, z1, z2, z3⟩, k3.rt, k3.nx, fun e' M' σ' H' x4 z1 z2 z3 => ⟨e', M', (x2.trans x3).trans x4, z1, z2, z3⟩⟩
      · exact f2.elim
  · left
    have ei : i = ws.length := by omega
    subst ei
    rw [List.drop_length] at f2
    exact ⟨wk.stops M2 H2 x2.grow r2 f2.1, k.nx e2 M2 σ2 H2 x02 re2 r2 f2.2⟩
/-- over a list or a tuple -/
def miSeq (m : ME) : MI := fun RX e M R => m RX e M fun w M1 => match w with
  | .tup ws => R ws (fun _ => True) M1
  | .lsv ws => R ws (fun _ => True) M1
  | .ref a => match M1 a with
    | some (.lst ws) => R ws (fun M' => M' a = some (.lst ws)) M1
    | _ => False
  | _ => False
theorem walk_seqL {K : PySem.W.Frag} {a : Addr} {ws : List W} {H1 : Hp} : MWalk K T (Itl K a) ws (fun M' => M' a = some (.lst ws)) H1 := by
  refine ⟨fun i M H lt _ r g => ?_, fun M H _ r g => ?_, fun i M H x H' lt _ r g y => ?_⟩
  · obtain ⟨us, e, q⟩ := r.ob a _ g
    have : i < us.length := by rw [q.length]; exact lt
    exact ⟨us, us[i], .inl (.inl e), by simp [this]⟩
  · obtain ⟨us, e, q⟩ := r.ob a _ g
    exact ⟨us, .inl (.inl e), by rw [q.length]; exact Nat.le_refl _⟩
  · obtain ⟨us, e, q⟩ := r.ob a _ g
    obtain ⟨rfl, hx⟩ := y
    have hx := hx us (.inl (.inl e))
    refine ⟨Ext.refl, r, ws[i], by simp [lt], ?_⟩
    obtain ⟨v, h1, h2⟩ := q.get (i := i) (w := ws[i]) (by simp [lt])
    rw [hx] at h1; cases h1
    exact h2
theorem walk_seqF {K : PySem.W.Frag} {a : Addr} {ws : List W} {us : List V} {H1 : Hp} (s : SqF K H1 a us) (q : Reps K H1 ws us) : MWalk K T (Itl K a) ws (fun _ => True) H1 := by
  refine ⟨fun i M H lt g1 r g => ?_, fun M H g1 r g => ?_, fun i M H x H' lt g1 r g y => ?_⟩
  · have : i < us.length := by rw [q.length]; exact lt
    exact ⟨us, us[i], (s.grow g1).sq, by simp [this]⟩
  · exact ⟨us, (s.grow g1).sq, by rw [q.length]; exact Nat.le_refl _⟩
  · obtain ⟨rfl, hx⟩ := y
    have hx := hx us (s.grow g1).sq
    refine ⟨Ext.refl, r, ws[i], by simp [lt], ?_⟩
    obtain ⟨v, h1, h2⟩ := (q.grow g1).get (i := i) (w := ws[i]) (by simp [lt])
    rw [hx] at h1; cases h1
    exact h2
theorem walk_seqT {K : PySem.W.Frag} {a : Addr} {ws : List W} {us : List V} {H1 : Hp} (s : SqT K H1 a us) (q : Reps K H1 ws us) : MWalk K T (Itt K a) ws (fun _ => True) H1 := by
  refine ⟨fun i M H lt g1 r g => ?_, fun M H g1 r g => ?_, fun i M H x H' lt g1 r g y => ?_⟩
  · have : i < us.length := by rw [q.length]; exact lt
    exact ⟨us, us[i], SqT.grow g1 s, by simp [this]⟩
  · exact ⟨us, SqT.grow g1 s, by rw [q.length]; exact Nat.le_refl _⟩
  · obtain ⟨rfl, hx⟩ := y
    have hx := hx us (SqT.grow g1 s)
    refine ⟨Ext.refl, r, ws[i], by simp [lt], ?_⟩
    obtain ⟨v, h1, h2⟩ := (q.grow g1).get (i := i) (w := ws[i]) (by simp [lt])
    rw [hx] at h1; cases h1
    exact h2
def iSq (K : PySem.W.Frag) (tl : TE) : TI := fun σ H R => tl σ H fun x H1 => ∃ a, x = .ref a ∧ (((∃ xs, SqL K H1 a xs) ∧ R (Itl K a) H1) ∨ ((∃ xs, SqT K H1 a xs) ∧ R (Itt K a) H1))
theorem pi_sq {tg l : Expr} {tl : TE} (hl : PE X l tl) : PI X tg l (iSq X.K tl) := by
  refine ⟨fun pins s σ H R I h => ?_⟩
  refine thn (hl.run pins s σ H _ I h) fun v s1 ⟨x, H1, I1, r1, a, e, q⟩ => ?_
  subst e
  obtain rfl : v = Value.ref a := r1
  have fresh : ∀ b ∈ [s1.heap.objs.size], FpOk X pins H1 b := fun b hb => by
    rw [List.mem_singleton.mp hb]
    exact I1.fpOk (Nat.le_refl _) (I1.hok.fresh (Nat.le_refl _))
  rcases q with ⟨⟨xs, hq⟩, q⟩ | ⟨⟨xs, hq⟩, q⟩
  · obtain ⟨its, rv, p, _⟩ := I1.list hq
    exact wpAny_pyIter_list p.isList ⟨_, _, _, _, H1, rfl, I1.kept (t' := s1.toks) fun b o e => Heap.get?_push_of_some _ e, turn_list a _, ⟨_, Heap.get?_push_size _ rfl, rfl, rfl⟩, fresh, q⟩
  · obtain ⟨its, rv, p, _⟩ := I1.tuple hq
    exact wpAny_pyIter_tuple (show s1.heap.IsTuple a its.toArray from p) ⟨_, _, _, _, H1, rfl, I1.kept (t' := s1.toks) fun b o e => Heap.get?_push_of_some _ e, turn_tuple a _, ⟨_, Heap.get?_push_size _ rfl, rfl, rfl⟩, fresh, q⟩
theorem mi_seq {tg l : Expr} {m : ME} (hl : PE X l (Lf X.K T Wx m)) : PI X tg l (LfI X.K T Wx (miSeq m)) := by
  refine PI.wk (pi_sq hl) fun σ H R h => ?_
  obtain ⟨RX, e, M, RM, b, h, k⟩ := h
  refine one_ok b h fun w M1 v H1 x1 r1 p1 h1 => ?_
  cases w with
  | tup ws =>
    simp only [Rep] at p1
    obtain ⟨a, us, rfl, s, q⟩ := p1
    exact ⟨a, rfl, .inr ⟨⟨us, s⟩, k ws _ M1 H1 _ x1 r1 (walk_seqT s q) h1⟩⟩
  | lsv ws =>
    simp only [Rep] at p1
    obtain ⟨a, us, rfl, s, q⟩ := p1
    exact ⟨a, rfl, .inl ⟨⟨us, s.sq⟩, k ws _ M1 H1 _ x1 r1 (walk_seqF s q) h1⟩⟩
  | ref a =>
    simp only [Rep] at p1
    subst p1
    simp only at h1
    split at h1
    · rename_i ws q
      obtain ⟨us, e2, _⟩ := r1.ob a _ q
      exact ⟨a, rfl, .inl ⟨⟨us, .inl (.inl e2)⟩, k ws _ M1 H1 _ x1 r1 walk_seqL h1⟩⟩
    · exact h1.elim
  | _ => exact h1.elim
/-- range(b), range(a, b) -/
def rgW (a b : Int) : List W := (List.range (b - a).toNat).map fun i => W.int (a + (i : Nat))
def miRg1 (m : ME) : MI := fun RX e M R => m RX e M fun w M1 => match w with
  | .int j => (-(2 ^ 62) ≤ j ∧ j < 2 ^ 62) ∧ R (rgW 0 j) (fun _ => True) M1
  | _ => False
def miRg2 (m m2 : ME) : MI := fun RX e M R => m RX e M fun w M1 => m2 RX e M1 fun w2 M2 => match w, w2 with
  | .int i, .int j => (-(2 ^ 62) ≤ i ∧ i < 2 ^ 62 ∧ -(2 ^ 62) ≤ j ∧ j < 2 ^ 62) ∧ R (rgW i j) (fun _ => True) M2
  | _, _ => False
theorem walk_rg {K : PySem.W.Frag} {lo hi : Int} {H1 : Hp} : MWalk K T (Itr lo (hi - lo).toNat) (rgW lo hi) (fun _ => True) H1 := by
  have ln : (rgW lo hi).length = (hi - lo).toNat := by unfold rgW; rw [List.length_map, List.length_range]
  refine ⟨fun i M H lt _ r g => by rw [ln] at lt; exact lt, fun M H _ r g => by rw [ln]; exact Nat.le_refl _, fun i M H x H' lt _ r g y => ?_⟩
  obtain ⟨rfl, rfl⟩ := y
  rw [ln] at lt
  refine ⟨Ext.refl, r, .int (lo + (i : Nat)), ?_, by simp only [Rep]⟩
  unfold rgW
  rw [List.getElem?_map, List.getElem?_range lt]
  rfl
theorem mi_rg1 {tg a : Expr} {m : ME} {p : Pos} (hm : X.mg "range" = none) (ha : PE X a (Lf X.K T Wx m)) (hg : Gl X "range" := by rfl) (hs : starEach [a] X.env = [(false, eval a X.env)] := by rfl) : PI X tg (.Call (.Name "range" p) [a] [] pos) (LfI X.K T Wx (miRg1 m)) := by
  refine PI.wk (pi_range1 hg hm (ma_cons ha ma_nil hs) hs) fun σ H R h => ?_
  obtain ⟨RX, e, M, RM, b, h, k⟩ := h
  refine one_ok (q := fun x H1 => ∃ j : Int, [x] = [V.int j] ∧ -(2 ^ 62) ≤ j ∧ j < 2 ^ 62 ∧ R (Itr 0 j.toNat) H1) b h fun w M1 v H1 x1 r1 p1 h1 => ?_
  split at h1
  · rename_i j
    simp only [Rep] at p1
    subst p1
    refine ⟨j, rfl, h1.1.1, h1.1.2, k _ _ M1 H1 _ x1 r1 ?_ h1.2⟩
    have z := walk_rg (T := T) (K := X.K) (lo := 0) (hi := j) (H1 := H1)
    rw [Int.sub_zero] at z
    exact z
  · exact h1.elim
theorem mi_rg2 {tg a b : Expr} {m m2 : ME} {p : Pos} (hm : X.mg "range" = none) (ha : PE X a (Lf X.K T Wx m)) (hb : PE X b (Lf X.K T Wx m2)) (hg : Gl X "range" := by rfl) (hs : starEach [a, b] X.env = [(false, eval a X.env), (false, eval b X.env)] := by rfl) (hs2 : starEach [b] X.env = [(false, eval b X.env)] := by rfl) :
    PI X tg (.Call (.Name "range" p) [a, b] [] pos) (LfI X.K T Wx (miRg2 m m2)) := by
  refine PI.wk (pi_range2 hg hm (ma_cons ha (ma_cons hb ma_nil hs2) (hs.trans (by rw [hs2]))) hs hs2) fun σ H R h => ?_
  obtain ⟨RX, e, M, RM, b, h, k⟩ := h
  refine two_ok (q := fun x y H1 => ∃ i j : Int, [x, y] = [V.int i, V.int j] ∧ (-(2 ^ 62) ≤ i ∧ i < 2 ^ 62 ∧ -(2 ^ 62) ≤ j ∧ j < 2 ^ 62) ∧ R (Itr i (j - i).toNat) H1) b h fun w w2 M1 v u H1 x1 r1 p1 p2 h1 => ?_
  split at h1
  · rename_i i j
    simp only [Rep] at p1 p2
    subst p1; subst p2
    exact ⟨i, j, rfl, h1.1, k _ _ M1 H1 _ x1 r1 walk_rg h1.2⟩
  · exact h1.elim
end
end ML


set_option Elab.async false
set_option linter.all false
set_option maxRecDepth 100000
set_option maxHeartbeats 2000000
namespace ML
open PySem PySem.Spec PyProof.Rows L2
/-! ### enumerate -/
def enumW (k : Int) (ws : List W) : List W := ws.mapIdx fun i w => .tup [.int (k + (i : Nat)), w]
theorem enumW_length (k : Int) (ws : List W) : (enumW k ws).length = ws.length := by unfold enumW; rw [List.length_mapIdx]
theorem enumW_get {k : Int} {ws : List W} {i : Nat} {w : W} (h : ws[i]? = some w) : (enumW k ws)[i]? = some (.tup [.int (k + (i : Nat)), w]) := by
  unfold enumW
  rw [List.getElem?_mapIdx, h]; rfl
/-- the items with their numbers; a list from 0 on alone -/
def miEnum (k : Int) (m : ME) : MI := fun RX e M R => m RX e M fun w M1 => match w with
  | .tup ws => R (enumW k ws) (fun _ => True) M1
  | .ref a => match M1 a with
    | some (.lst ws) => k = 0 ∧ R (enumW k ws) (fun M' => M' a = some (.lst ws)) M1
    | _ => False
  | _ => False
section
variable {X : Cx} {T : List (Addr × Str)} {Wx : WX} {pos : Pos}
theorem pair_new {K : PySem.W.Frag} {M : Mh} {H : Hp} {t : Addr} {i : Int} {w : W} {x : V} (r : Rel K T M H) (h : H t = none) (p : Rep K H w x) : Ext M H M (upd H t (.tup [.int i, x])) ∧ Rel K T M (upd H t (.tup [.int i, x])) ∧ Rep K (upd H t (.tup [.int i, x])) (.tup [.int i, w]) (.ref t) := by
  refine ⟨Ext.hid r h, r.hid h, ?_⟩
  simp only [Rep]
  exact ⟨t, _, rfl, .inl (.inl upd_same), Reps.cons (by simp only [Rep]) (Reps.cons (p.grow (Grow.new h)) Reps.nil)⟩
theorem walk_enL {K : PySem.W.Frag} {a : Addr} {ws : List W} {H1 : Hp} : MWalk K T (Ite K a) (enumW 0 ws) (fun M' => M' a = some (.lst ws)) H1 := by
  refine ⟨fun i M H lt _ r g => ?_, fun M H _ r g => ?_, fun i M H x H' lt _ r g y => ?_⟩
  · obtain ⟨us, e, q⟩ := r.ob a _ g
    rw [enumW_length] at lt
    have : i < us.length := by rw [q.length]; exact lt
    exact ⟨us, us[i], .inl (.inl e), by simp [this]⟩
  · obtain ⟨us, e, q⟩ := r.ob a _ g
    exact ⟨us, .inl (.inl e), by rw [q.length, enumW_length]; exact Nat.le_refl _⟩
  · obtain ⟨us, e, q⟩ := r.ob a _ g
    obtain ⟨t, z, rfl, hn, rfl, hx⟩ := y
    have hx := hx us (.inl (.inl e))
    rw [enumW_length] at lt
    obtain ⟨v, h1, h2⟩ := q.get (i := i) (w := ws[i]) (by simp [lt])
    rw [hx] at h1; cases h1
    obtain ⟨a1, a2, a3⟩ := pair_new (i := (i : Nat)) r hn h2
    refine ⟨a1, a2, .tup [.int (0 + (i : Nat)), ws[i]], enumW_get (by simp [lt]), ?_⟩
    rw [Int.zero_add]
    exact a3
theorem walk_enT {K : PySem.W.Frag} {a : Addr} {ws : List W} {us : List V} {k : Int} {H1 : Hp} (s : SqT K H1 a us) (q : Reps K H1 ws us) : MWalk K T (ItE K a k) (enumW k ws) (fun _ => True) H1 := by
  refine ⟨fun i M H lt g1 r g => ?_, fun M H g1 r g => ?_, fun i M H x H' lt g1 r g y => ?_⟩
  · rw [enumW_length] at lt
    have : i < us.length := by rw [q.length]; exact lt
    exact ⟨us, us[i], SqT.grow g1 s, by simp [this]⟩
  · exact ⟨us, SqT.grow g1 s, by rw [q.length, enumW_length]⟩
  · obtain ⟨t, z, rfl, hn, rfl, hx⟩ := y
    have hx := hx us (SqT.grow g1 s)
    rw [enumW_length] at lt
    obtain ⟨v, h1, h2⟩ := (q.grow g1).get (i := i) (w := ws[i]) (by simp [lt])
    rw [hx] at h1; cases h1
    obtain ⟨a1, a2, a3⟩ := pair_new (i := k + (i : Nat)) r hn h2
    exact ⟨a1, a2, .tup [.int (k + (i : Nat)), ws[i]], enumW_get (by simp [lt]), a3⟩
def iEn (K : PySem.W.Frag) (tl : TE) : TI := fun σ H R => tl σ H fun x H1 => ∃ a, x = .ref a ∧ (((∃ xs, SqL K H1 a xs) ∧ R (Ite K a) H1) ∨ ((∃ xs, SqT K H1 a xs) ∧ R (ItE K a 0) H1))
theorem pi_en {e : Expr} {te : TE} {p tpos : Pos} {elts : List Expr} {kk : Nat} (hm : X.mg "enumerate" = none) (he : PE X e te) (hg : Gl X "enumerate" := by rfl) (hs : starEach [e] X.env = [(false, eval e X.env)] := by rfl) :
    PI X (.Tuple elts kk tpos) (.Call (.Name "enumerate" p) [e] [] pos) (iEn X.K te) := by
  refine ⟨fun pins s σ H R I h => ?_⟩
  have ha : PA X [e] (tCons te tNil) := pa_cons he pa_nil hs
  refine Call_ (ld_blt I hg hm boot_enumerate (PyProof.Rows.callWith_type1 (thn (ha.run pos pins s σ H (fun vs H1 => ∃ x, vs = [x] ∧ ∃ a, x = .ref a ∧ (((∃ xs, SqL X.K H1 a xs) ∧ R (Ite X.K a) H1) ∨ ((∃ xs, SqT X.K H1 a xs) ∧ R (ItE X.K a 0) H1))) I ?_) fun us s1 ⟨vs, H1, I1, r1, x, ev, a, ex, q⟩ => ?_) hs rfl))
  · obtain h : te σ H _ := h
    have mono : ∀ {Q Q' : VK}, te σ H Q → (∀ v H', Q v H' → Q' v H') → True := fun _ _ => trivial
    exact (show te σ H (fun x H1 => ∃ y, [x] = [y] ∧ ∃ a, y = V.ref a ∧ (((∃ xs, SqL X.K H1 a xs) ∧ R (Ite X.K a) H1) ∨ ((∃ xs, SqT X.K H1 a xs) ∧ R (ItE X.K a 0) H1))) from by
      have e2 : (fun (x : V) (H1 : Hp) => ∃ y, [x] = [y] ∧ ∃ a, y = V.ref a ∧ (((∃ xs, SqL X.K H1 a xs) ∧ R (Ite X.K a) H1) ∨ ((∃ xs, SqT X.K H1 a xs) ∧ R (ItE X.K a 0) H1)))
          = fun x H1 => ∃ a, x = V.ref a ∧ (((∃ xs, SqL X.K H1 a xs) ∧ R (Ite X.K a) H1) ∨ ((∃ xs, SqT X.K H1 a xs) ∧ R (ItE X.K a 0) H1)) := by
        funext x H1
        apply propext
        constructor
        · rintro ⟨y, e, z⟩
          cases e; exact z
        · exact fun z => ⟨x, rfl, z⟩
      rw [e2]; exact h)
  subst ev; subst ex
  obtain ⟨u, rfl, ru⟩ := r1.one
  obtain rfl : u = Value.ref a := ru
  have fresh : ∀ b ∈ [s1.heap.objs.size + 1, s1.heap.objs.size], FpOk X pins H1 b := fun b hb => by
    have le : s1.heap.objs.size ≤ b := by
      simp only [List.mem_cons, List.not_mem_nil, or_false] at hb
      rcases hb with rfl | rfl
      · exact Nat.le_succ _
      · exact Nat.le_refl _
    exact I1.fpOk le (I1.hok.fresh le)
  rcases q with ⟨⟨xs, hq⟩, q⟩ | ⟨⟨xs, hq⟩, q⟩
  · obtain ⟨its, rv, pl, _⟩ := I1.list hq
    refine call_enumerate_list pl.isList fun h' he' hit hsz hk => wpAny_pyIter_enum he' ?_
    exact ⟨_, _, _, _, H1, rfl, I1.kept (t' := s1.toks) hk, turn_enum a _ _, ⟨⟨.none, he'⟩, hit, Nat.succ_ne_self _⟩, fresh, q⟩
  · obtain ⟨its, rv, pt, _⟩ := I1.tuple hq
    refine enumT_call (begins_tuple a its.toArray) (show s1.heap.IsTuple a its.toArray from pt) fun h' he' hit hk => wpAny_pyIter_enum he' ?_
    exact ⟨_, _, _, _, H1, rfl, I1.kept (t' := s1.toks) hk, turn_enumT a _ _ 0, ⟨⟨.none, he'⟩, ⟨_, hit, rfl, rfl⟩, Nat.succ_ne_self _⟩, fresh, q⟩
theorem mi_enum {e : Expr} {m : ME} {p tpos : Pos} {elts : List Expr} {kk : Nat} (hm : X.mg "enumerate" = none) (he : PE X e (Lf X.K T Wx m)) (hg : Gl X "enumerate" := by rfl) (hs : starEach [e] X.env = [(false, eval e X.env)] := by rfl) :
    PI X (.Tuple elts kk tpos) (.Call (.Name "enumerate" p) [e] [] pos) (LfI X.K T Wx (miEnum 0 m)) := by
  refine PI.wk (pi_en hm he hg hs) fun σ H R h => ?_
  obtain ⟨RX, e, M, RM, b, h, k⟩ := h
  refine one_ok b h fun w M1 v H1 x1 r1 p1 h1 => ?_
  cases w with
  | tup ws =>
    simp only [Rep] at p1
    obtain ⟨a, us, rfl, s, q⟩ := p1
    exact ⟨a, rfl, .inr ⟨⟨us, s⟩, k _ _ M1 H1 _ x1 r1 (walk_enT s q) h1⟩⟩
  | ref a =>
    simp only [Rep] at p1
    subst p1
    simp only at h1
    split at h1
    · rename_i ws q
      obtain ⟨us, e2, _⟩ := r1.ob a _ q
      exact ⟨a, rfl, .inl ⟨⟨us, .inl (.inl e2)⟩, k _ _ M1 H1 _ x1 r1 walk_enL h1.2⟩⟩
    · exact h1.elim
  | _ => exact h1.elim
/-- enumerate(t, k) -/
def iEn2 (K : PySem.W.Frag) (k : Int) (tl : TE) : TI := fun σ H R => tl σ H fun x H1 => ∃ a, x = .ref a ∧ (∃ xs, SqT K H1 a xs) ∧ R (ItE K a k) H1
theorem pi_en2 {e : Expr} {te : TE} {p tpos p2 : Pos} {elts : List Expr} {kk : Nat} {k : Int} {j} (hk : -(2 ^ 63) ≤ k ∧ k < 2 ^ 63) (hm : X.mg "enumerate" = none) (he : PE X e te) (hg : Gl X "enumerate" := by rfl)
    (hs : starEach [e, .Constant (.int k) j p2] X.env = (false, eval e X.env) :: starEach [.Constant (.int k) j p2] X.env := by rfl) (hs2 : starEach [.Constant (.int k) j p2] X.env = [(false, eval (.Constant (.int k) j p2) X.env)] := by rfl) :
    PI X (.Tuple elts kk tpos) (.Call (.Name "enumerate" p) [e, .Constant (.int k) j p2] [] pos) (iEn2 X.K k te) := by
  refine ⟨fun pins s σ H R I h => ?_⟩
  have hT : tCons te (tCons (tC (.int k)) tNil) σ H fun vs H1 => ∃ a, vs = [.ref a, .int k] ∧ (∃ xs, SqT X.K H1 a xs) ∧ R (ItE X.K a k) H1 := by
    show te σ H fun x H1 => ∃ a, [x, V.int k] = [V.ref a, V.int k] ∧ (∃ xs, SqT X.K H1 a xs) ∧ R (ItE X.K a k) H1
    have e2 : (fun (x : V) (H1 : Hp) => ∃ a, [x, V.int k] = [V.ref a, V.int k] ∧ (∃ xs, SqT X.K H1 a xs) ∧ R (ItE X.K a k) H1) = fun x H1 => ∃ a, x = V.ref a ∧ (∃ xs, SqT X.K H1 a xs) ∧ R (ItE X.K a k) H1 := by
      funext x H1
      simp
    rw [e2]; exact h
  have ha : PA X [e, .Constant (.int k) j p2] (tCons te (tCons (tC (.int k)) tNil)) := pa_cons he (pa_cons pe_int pa_nil hs2) hs
  refine Call_ (ld_blt I hg hm boot_enumerate (PyProof.Rows.callWith_type1 (thn (ha.run pos pins s σ H _ I hT) fun us s1 ⟨vs, H1, I1, r1, a, ev, ⟨xs, hq⟩, q⟩ => ?_) hs (by rw [hs2]; rfl)))
  subst ev
  obtain ⟨u1, u2, rfl, rq1, rq2⟩ := r1.two
  obtain rfl : u1 = Value.ref a := rq1
  obtain ⟨tk, rfl⟩ := rq2
  obtain ⟨its, rv, pt, _⟩ := I1.tuple hq
  refine enum_begins (begins_tuple a its.toArray) (show s1.heap.IsTuple a its.toArray from pt) hk.1 hk.2 fun h' he' hit hsz hkp => wpAny_pyIter_enum he' ?_
  refine ⟨_, [s1.heap.objs.size + 1, s1.heap.objs.size], _, _, H1, rfl, I1.kept (t' := s1.toks) hkp, turn_enumT a _ _ k, ⟨⟨.none, by simpa using he'⟩, ⟨_, hit, rfl, rfl⟩, Nat.succ_ne_self _⟩, fun b hb => ?_, q⟩
  have le : s1.heap.objs.size ≤ b := by
    simp only [List.mem_cons, List.not_mem_nil, or_false] at hb
    rcases hb with rfl | rfl
    · exact Nat.le_succ _
    · exact Nat.le_refl _
  exact I1.fpOk le (I1.hok.fresh le)
theorem mi_enum2 {e : Expr} {m : ME} {p tpos p2 : Pos} {elts : List Expr} {kk : Nat} {k : Int} {j} (hm : X.mg "enumerate" = none) (he : PE X e (Lf X.K T Wx m)) (hk : -(2 ^ 63) ≤ k ∧ k < 2 ^ 63 := by decide) (hk0 : k ≠ 0 := by decide) (hg : Gl X "enumerate" := by rfl)
    (hs : starEach [e, .Constant (.int k) j p2] X.env = (false, eval e X.env) :: starEach [.Constant (.int k) j p2] X.env := by rfl) (hs2 : starEach [.Constant (.int k) j p2] X.env = [(false, eval (.Constant (.int k) j p2) X.env)] := by rfl) :
    PI X (.Tuple elts kk tpos) (.Call (.Name "enumerate" p) [e, .Constant (.int k) j p2] [] pos) (LfI X.K T Wx (miEnum k m)) := by
  refine PI.wk (pi_en2 hk hm he hg hs hs2) fun σ H R h => ?_
  obtain ⟨RX, e, M, RM, b, h, kk⟩ := h
  refine one_ok b h fun w M1 v H1 x1 r1 p1 h1 => ?_
  cases w with
  | tup ws =>
    simp only [Rep] at p1
    obtain ⟨a, us, rfl, s, q⟩ := p1
    exact ⟨a, rfl, ⟨us, s⟩, kk _ _ M1 H1 _ x1 r1 (walk_enT s q) h1⟩
  | ref a =>
    simp only at h1
    split at h1
    · exact absurd h1.1 hk0
    · exact h1.elim
  | _ => exact h1.elim
end
/-! ### comprehensions -/
abbrev noX : MX := fun _ _ => False
abbrev noW : WX := fun _ _ _ _ => False
def wipeM (e : MEnv) : List Nat → MEnv
  | [] => e
  | v :: vs => (wipeM e vs).set v none
def lcL (G : Mh → Prop) (tg : Tg) (mt : MT) (me : ME) (e0 : MEnv) (F : List W → Mh → Prop) : List W → List W → Mh → Prop
  | [], acc, M => G M ∧ F acc M
  | w :: ws, acc, M => G M ∧ match bindT tg w e0 with
    | some e1 => mt noX e1 M fun c M1 => if c = true then me noX e1 M1 fun y M2 => lcL G tg mt me e0 F ws (acc ++ [y]) M2 else lcL G tg mt me e0 F ws acc M1
    | none => False
def mLc (mi : MI) (tg : Tg) (mt : MT) (me : ME) (vs : List Nat) : ME := fun RX e M R => mi RX e M fun ws G M1 => ws.length ≤ sizeLine ∧ lcL G tg mt me (wipeM e vs) (fun acc M2 => ∀ p, M2 p = none → R (.ref p) (updM M2 p (.lst acc))) ws [] M1
def mYes : MT := fun _ _ M R => R true M
section
variable {K : PySem.W.Frag} {T : List (Addr × Str)} {M : Mh} {H : Hp} {D : Addr} {us us' : List V}
/-- a list that the map does not own is changed -/
theorem Own.poke (r : Rel K T M H) (n : ¬ Own M H D) {x : HO} {a : Addr} (o : Own M (upd H D x) a) : Own M H a := by
  rcases o with o | ⟨s, g, c, gs, cs, rest, turn, e, d, z⟩
  · exact .inl o
  · obtain ⟨m, e⟩ := e
    obtain ⟨⟨g', c', gs', cs', rest', turn', d', _⟩, _⟩ := r.ob s _ e
    have es : s ≠ D := fun z => by subst z; exact n (.inl (by rw [e]; simp))
    obtain ⟨e1, e2⟩ := d'.same d (by rw [upd_ne es])
    subst e1; subst e2
    exact .inr ⟨s, _, _, _, _, _, _, ⟨m, e⟩, d', z⟩
theorem Rel.poke (r : Rel K T M H) (hD : H D = some (.lst us)) (n : ¬ Own M H D) : Rel K T M (upd H D (.lst us')) := by
  have g : Grow H (upd H D (.lst us')) := Grow.set hD trivial
  have kk : ∀ b u, b ≠ D → H b = some u → upd H D (.lst us') b = some u := fun b u z e => by rw [upd_ne z]; exact e
  refine ⟨fun a o e => ?_, tabs_of r.tab fun b u n1 _ _ e => kk b u (fun z => by subst z; rw [hD] at e; cases e; exact n1 _ rfl) e⟩
  have na : a ≠ D := fun z => by subst z; exact n (.inl (by rw [e]; simp))
  have q := r.ob a o e
  cases o with
  | lst ws => obtain ⟨us, e2, p⟩ := q; exact ⟨us, kk _ _ na e2, p.grow g⟩
  | dct ws => obtain ⟨us, e2, p⟩ := q; exact ⟨us, kk _ _ na e2, p.grow g⟩
  | ins C fs => obtain ⟨dx, us, e2, p⟩ := q; exact ⟨dx, us, kk _ _ na e2, p.grow g⟩
  | exc c => exact kk _ _ na q
  | drw m =>
    obtain ⟨⟨g1, c1, gs, cs, rest, turn, d, n1, n2⟩, u⟩ := q
    have ng : g1 ≠ D := fun z => n (.inr ⟨a, g1, c1, gs, cs, rest, turn, ⟨m, e⟩, d, .inl z.symm⟩)
    have nc : c1 ≠ D := fun z => n (.inr ⟨a, g1, c1, gs, cs, rest, turn, ⟨m, e⟩, d, .inr z.symm⟩)
    obtain ⟨d1, d2, d3, d4⟩ := d
    exact ⟨⟨g1, c1, gs, cs, rest, turn, ⟨kk _ _ na d1, kk _ _ ng d2, kk _ _ nc d3, d4⟩, n1, n2⟩, u⟩
theorem Ext.poke {M1 : Mh} {H1 : Hp} (x : Ext M1 H1 M H) (r : Rel K T M H) (h1 : H1 D = none) (hD : H D = some (.lst us)) (n : ¬ Own M H D) : Ext M1 H1 M (upd H D (.lst us')) := by
  have nD : ∀ a, H1 a ≠ none → a ≠ D := fun a h z => by subst z; exact h h1
  refine ⟨x.grow.trans (Grow.set hD trivial), fun a u m h ow z => x.fr a u m h ow (z.poke r n), fun a u m e ow => ?_⟩
  · rw [upd_ne (nD a (by rw [e]; simp))]; exact x.keep a u m e ow
/-- such a list comes into the map -/
theorem Rel.adopt {ws : List W} (r : Rel K T M H) (hD : H D = some (.lst us)) (n : ¬ Own M H D) (p : Reps K H ws us) : Rel K T (updM M D (.lst ws)) H := by
  refine ⟨fun a o e => ?_, r.tab⟩
  by_cases z : a = D
  · subst z
    rw [updM_same] at e; cases e
    exact ⟨us, hD, p⟩
  · rw [updM_ne z] at e
    have q := r.ob a o e
    cases o with
    | lst ws => exact q
    | dct ws => exact q
    | ins C fs => exact q
    | exc c => exact q
    | drw m =>
      obtain ⟨⟨g1, c1, gs, cs, rest, turn, d, n1, n2, n3⟩, u⟩ := q
      have ng : g1 ≠ D := fun z => n (.inr ⟨a, g1, c1, gs, cs, rest, turn, ⟨m, e⟩, d, .inl z.symm⟩)
      have nc : c1 ≠ D := fun z => n (.inr ⟨a, g1, c1, gs, cs, rest, turn, ⟨m, e⟩, d, .inr z.symm⟩)
      refine ⟨⟨g1, c1, gs, cs, rest, turn, d, by rw [updM_ne ng]; exact n1, by rw [updM_ne nc]; exact n2, n3⟩, fun b ⟨m, e⟩ => ?_⟩
      by_cases zb : b = D
      · subst zb; rw [updM_same] at e; cases e
      · rw [updM_ne zb] at e; exact u b ⟨m, e⟩
theorem Ext.adopt {M1 : Mh} {H1 : Hp} {ws : List W} (x : Ext M1 H1 M H) (h1 : H1 D = none) : Ext M1 H1 (updM M D (.lst ws)) H := by
  refine ⟨x.grow, fun a u m h ow z => x.fr a u m h ow ?_, x.keep⟩
  have na : a ≠ D := fun z => by subst z; rw [h1] at h; cases h
  rcases z with z | ⟨s, g, c, gs, cs, rest, turn, e, d, z⟩
  · rw [updM_ne na] at z; exact .inl z
  · obtain ⟨m, e⟩ := e
    have es : s ≠ D := fun z => by subst z; rw [updM_same] at e; cases e
    rw [updM_ne es] at e
    exact .inr ⟨s, g, c, gs, cs, rest, turn, ⟨m, e⟩, d, z⟩
end
theorem wipe_set (σ : L2.St) (i : Nat) (x : Option V) : ∀ vs : List Nat, wipe (σ.set i x) vs = if i ∈ vs then wipe σ vs else (wipe σ vs).set i x
  | [] => by simp [wipe]
  | v :: vs => by
    show (wipe (σ.set i x) vs).set v none = _
    rw [wipe_set σ i x vs]
    by_cases h : i ∈ vs
    · rw [if_pos h, if_pos (List.mem_cons_of_mem _ h)]; rfl
    · rw [if_neg h]
      by_cases e : i = v
      · subst e
        rw [if_pos List.mem_cons_self, List.set_set]; rfl
      · rw [if_neg (by simp [e, h]), List.set_comm _ _ e]; rfl
theorem wipe_wipe (σ : L2.St) : ∀ vs : List Nat, wipe (wipe σ vs) vs = wipe σ vs := by
  have key : ∀ (us vs : List Nat), (∀ u ∈ us, u ∈ vs) → wipe (wipe σ us) vs = wipe σ vs := by
    intro us
    induction us with
    | nil => intro vs _; rfl
    | cons u us ih =>
      intro vs h
      show wipe ((wipe σ us).set u none) vs = _
      rw [wipe_set, if_pos (h u List.mem_cons_self)]
      exact ih vs fun x hx => h x (List.mem_cons_of_mem _ hx)
  exact fun vs => key vs vs fun _ h => h
theorem wipeM_out {e : MEnv} {i : Nat} {w : W} : ∀ {vs : List Nat}, (wipeM e vs)[i]? = some (some w) → e[i]? = some (some w) ∧ i ∉ vs
  | [], h => ⟨h, by simp⟩
  | v :: vs, h => by
    have h : ((wipeM e vs).set v none)[i]? = some (some w) := h
    by_cases hi : v = i
    · subst hi
      by_cases lt : v < (wipeM e vs).length
      · rw [List.getElem?_set_self lt] at h; cases h
      · rw [List.getElem?_eq_none (by rw [List.length_set]; omega)] at h; cases h
    · rw [List.getElem?_set_ne hi] at h
      obtain ⟨a, b⟩ := wipeM_out h
      exact ⟨a, by simp only [List.mem_cons, not_or]; exact ⟨fun z => hi z.symm, b⟩⟩
theorem wipeM_length (e : MEnv) : ∀ vs : List Nat, (wipeM e vs).length = e.length
  | [] => rfl
  | v :: vs => by
    show ((wipeM e vs).set v none).length = _
    rw [List.length_set, wipeM_length e vs]
theorem RepE.wipe {K : PySem.W.Frag} {H : Hp} {e : MEnv} {σ : L2.St} (r : RepE K H e σ) (vs : List Nat) : RepE K H (wipeM e vs) (L2.wipe σ vs) := by
  refine ⟨by rw [wipeM_length, wipe_length]; exact r.1, fun i w h => ?_⟩
  obtain ⟨a, b⟩ := wipeM_out h
  obtain ⟨v, h1, h2⟩ := r.2 i w a
  exact ⟨v, by rw [wipe_out b]; exact h1, h2⟩
/-- a target of the block's own names -/
def GOkW (K : PySem.W.Frag) (vs : List Nat) (tg : Tg) (g : TG) : Prop := ∀ (w : W) (v : V) (e e1 : MEnv) (σ : L2.St) (H : Hp) (Q : L2.St → Hp → Prop), bindT tg w e = some e1 → Rep K H w v → RepE K H e σ → (∀ σ', RepE K H e1 σ' → wipe σ' vs = wipe σ vs → Q σ' H) → g v σ H Q
theorem gow_nm {K : PySem.W.Frag} (i : Nat) {vs : List Nat} (hi : i ∈ vs := by decide) : GOkW K vs (.nm i) (gName i) := fun w v e e1 σ H Q h p r k => by
  simp only [bindT, Option.some.injEq] at h
  subst h
  exact k _ (r.set p i) (by rw [wipe_set, if_pos hi])
theorem gallW_ok {K : PySem.W.Frag} {H : Hp} {vs0 : List Nat} {Q : L2.St → Hp → Prop} : ∀ {is : List Nat} {ws : List W} {vs : List V} {e : MEnv} {σ : L2.St}, (∀ i ∈ is, i ∈ vs0) → ws.length = is.length → Reps K H ws vs → RepE K H e σ → (∀ σ', RepE K H (setAll e is ws) σ' → wipe σ' vs0 = wipe σ vs0 → Q σ' H) → gAll is vs σ H Q
  | [], [], vs, e, σ, _, _, p, r, k => ⟨p.nil_inv, k σ r rfl⟩
  | i :: is, w :: ws, vs, e, σ, hi, hl, p, r, k => by
    obtain ⟨u, q, rfl, a, b⟩ := p.cons_inv
    refine ⟨u, q, rfl, gallW_ok (fun j hj => hi j (List.mem_cons_of_mem _ hj)) (by simpa using hl) b (r.set a i) fun σ' z1 z2 => k σ' z1 ?_⟩
    rw [z2, wipe_set, if_pos (hi i List.mem_cons_self)]
  | [], _ :: _, _, _, _, _, hl, _, _, _ => by simp at hl
  | _ :: _, [], _, _, _, _, hl, _, _, _ => by simp at hl
theorem gow_tp {K : PySem.W.Frag} (is : List Nat) {vs : List Nat} {n : Nat} (hn : is.length = n) (hi : ∀ i ∈ is, i ∈ vs) : GOkW K vs (.tp is) (gTup K n (gAll is)) := fun w v e e1 σ H Q h p r k => by
  cases w with
  | tup ws =>
    simp only [bindT] at h
    split at h
    · rename_i hl
      simp only [Option.some.injEq] at h
      subst h
      simp only [Rep] at p
      obtain ⟨a, us, rfl, s, q⟩ := p
      exact ⟨a, us, rfl, s, by rw [q.length, hl, hn], gallW_ok hi hl q r k⟩
    · cases h
  | _ => simp [bindT] at h
section
variable {X : Cx} {T : List (Addr × Str)} {Wx : WX} {pos : Pos}
theorem lcM_ok {K : PySem.W.Frag} {mi : MI} {tg : Tg} {g : TG} {mt : MT} {tt : TT} {me : ME} {vs : List Nat} {σ : L2.St} {H : Hp} {Q : VK} (og : GOkW K vs tg g) (ot : ∀ σ H Q, LfT K T noW mt σ H Q → tt σ H Q) (h : Lf K T Wx (mLc mi tg mt me vs) σ H Q) : tLc (LfI K T Wx mi) g tt (Lf K T noW me) vs σ H Q := by
  obtain ⟨RX, e, M, R, b0, h, k⟩ := h
  refine ⟨RX, e, M, _, b0, h, fun ws G M1 H1 J x1 r1 wk ⟨hz, h1⟩ D hD => ?_⟩
  generalize hF : (fun acc M2 => ∀ p, M2 p = none → R (.ref p) (updM M2 p (.lst acc)) : List W → Mh → Prop) = F at h1
  refine ⟨fun i m H2 => ∃ M2 acc us, i ≤ ws.length ∧ m = ws.length - i ∧ Ext M1 H1 M2 H2 ∧ Rel K T M2 H2 ∧ ¬ Own M2 H2 D ∧ H2 D = some (.lst us) ∧ Reps K H2 acc us ∧ acc.length ≤ i ∧ lcL G tg mt me (wipeM e vs) F (ws.drop i) acc M2, ⟨_, M1, [], [], Nat.zero_le _, rfl, Ext.hid r1 hD, r1.hid hD, ?_, upd_same, Reps.nil, Nat.le_refl _, h1⟩, ?_⟩
  · intro o
    rcases o with o | ⟨s, g0, c0, gs, cs, rest, turn, e, d, z⟩
    · exact o (r1.free hD)
    · obtain ⟨m, e⟩ := e
      obtain ⟨⟨g', c', gs', cs', rest', turn', d', _⟩, _⟩ := r1.ob s _ e
      have es : s ≠ D := fun z => by subst z; rw [d'.1] at hD; cases hD
      obtain ⟨e1, e2⟩ := d'.same d (by rw [upd_ne es])
      subst e1; subst e2
      rcases z with z | z
      · rw [z, d'.2.1] at hD; cases hD
      · rw [z, d'.2.2.1] at hD; cases hD
  · rintro i m H2 ⟨M2, acc, us, hi2, rfl, x2, r2, nw, eD, pa, la, f2⟩
    by_cases lt : i < ws.length
    · right
      have hw : ws[i]? = some ws[i] := by simp [lt]
      rw [drop_lt hw] at f2
      obtain ⟨g2, f2⟩ := f2
      refine ⟨wk.goes i M2 H2 lt x2.grow r2 g2, fun H' => ∃ M' acc' us', Ext M1 H1 M' H' ∧ Rel K T M' H' ∧ ¬ Own M' H' D ∧ H' D = some (.lst us') ∧ Reps K H' acc' us' ∧ acc'.length ≤ i + 1 ∧ lcL G tg mt me (wipeM e vs) F (ws.drop (i + 1)) acc' M', ?_, ?_⟩
      · rintro H' ⟨M', acc', us', z⟩
        exact ⟨ws.length - (i + 1), by omega, M', acc', us', lt, rfl, z⟩
      · intro x H' y
        obtain ⟨x3, r3, w, ew, p3⟩ := wk.yields i M2 H2 x H' lt x2.grow r2 g2 y
        rw [hw] at ew
        cases ew
        have eD3 := x3.keep D (.lst us) trivial eD nw
        have nw3 := x3.fr D (.lst us) trivial eD nw
        have x23 := x2.trans x3
        split at f2
        · rename_i e3 q
          refine og _ x _ e3 _ H' _ q p3 ((((b0.env.grow x1.grow).grow x2.grow).grow x3.grow).wipe vs) fun σ3 re3 wq => ⟨by rw [wq, wipe_wipe], ?_⟩
          have b3 : Base K T noW σ3 H' noX e3 M2 := ⟨re3, r3, fun _ _ _ _ _ _ z => z⟩
          refine ot _ _ _ ⟨noX, e3, M2, _, b3, f2, fun c M4 H4 x4 r4 h4 => ?_⟩
          have eD4 := x4.keep D (.lst us) trivial eD3 nw3
          have nw4 := x4.fr D (.lst us) trivial eD3 nw3
          have pa4 := (pa.grow x3.grow).grow x4.grow
          cases c with
          | true =>
            refine iteT ?_
            refine ⟨noX, e3, M4, _, b3.next x4 r4, h4, fun yw M5 yv H5 x5 r5 p5 h5 => ?_⟩
            have eD5 := x5.keep D (.lst us) trivial eD4 nw4
            have nw5 := x5.fr D (.lst us) trivial eD4 nw4
            have g5 : Grow H5 (upd H5 D (.lst (us ++ [yv]))) := Grow.set eD5 trivial
            refine ⟨us, eD5, by rw [pa.length]; omega, M5, acc ++ [yw], us ++ [yv], ?_, r5.poke eD5 nw5, fun o => nw5 (o.poke r5 nw5), upd_same, ?_, by rw [List.length_append]; exact Nat.succ_le_succ la, h5⟩
            · exact ((x23.trans x4).trans x5).poke r5 hD eD5 nw5
            · exact ((pa4.grow x5.grow).append (Reps.cons p5 Reps.nil)).grow g5
          | false =>
            refine iteF ?_
            exact ⟨M4, acc, us, x23.trans x4, r4, nw4, eD4, pa4, by omega, h4⟩
        · exact f2.elim
    · left
      have ei : i = ws.length := by omega
      subst ei
      rw [List.drop_length] at f2
      refine ⟨wk.stops M2 H2 x2.grow r2 f2.1, ?_⟩
      have q := f2.2
      rw [← hF] at q
      have nD : M2 D = none := by
        cases e : M2 D with
        | none => rfl
        | some o => exact absurd (.inl (by rw [e]; simp)) nw
      exact k _ _ _ _ (x1.trans (x2.adopt hD)) (r2.adopt eD nw pa) (by simp only [Rep]) (q D nD)
theorem mt_yes {σ : L2.St} {H : Hp} {Q : Bool → Hp → Prop} {K : PySem.W.Frag} (h : LfT K T noW mYes σ H Q) : tYes σ H Q := by
  obtain ⟨RX, e, M, R, b, h, k⟩ := h
  exact k true M H Ext.refl b.rel h
/-- [elt for target in iter], [.. if c] -/
theorem me_lc {elt tgt iter : Expr} {scope : Scope} {own : List (Str × Nat)} {mi : MI} {tg : Tg} {g : TG} {me : ME} (hc : X.calm = true) (hN : X.N.Nodup) (hi : PI X tgt iter (LfI X.K T Wx mi)) (og : GOkW X.K (own.map (·.2)) tg g) (ok : BlkOk X.N X.env.scope scope own)
    (hg : ∀ (s : Shared) (H : Hp) (C : Addr) (cl : List (Str × Addr)) (fp : List Addr), PG (X.blk s H scope (compEnvC scope cl C X.env) fp) tgt g)
    (he : ∀ (s : Shared) (H : Hp) (C : Addr) (cl : List (Str × Addr)) (fp : List Addr), PE (X.blk s H scope (compEnvC scope cl C X.env) fp) elt (Lf X.K T noW me)) (hs : ∀ x, foldedSetIterable iter X.env x = pure x := by intro _; rfl) :
    PE X (.ListComp elt [⟨tgt, iter, [], 0⟩] scope pos) (Lf X.K T Wx (mLc mi tg mYes me (own.map (·.2)))) :=
  PE.wk (pe_lc hc hN hi ok hg (fun _ _ _ _ _ => pts_nil) he hs) fun _ _ _ h => lcM_ok og (fun _ _ _ => mt_yes) h
theorem me_lcI {elt tgt iter c : Expr} {scope : Scope} {own : List (Str × Nat)} {mi : MI} {tg : Tg} {g : TG} {mt : MT} {me : ME} (hc : X.calm = true) (hN : X.N.Nodup) (hi : PI X tgt iter (LfI X.K T Wx mi)) (og : GOkW X.K (own.map (·.2)) tg g) (ok : BlkOk X.N X.env.scope scope own)
    (hg : ∀ (s : Shared) (H : Hp) (C : Addr) (cl : List (Str × Addr)) (fp : List Addr), PG (X.blk s H scope (compEnvC scope cl C X.env) fp) tgt g)
    (ht : ∀ (s : Shared) (H : Hp) (C : Addr) (cl : List (Str × Addr)) (fp : List Addr), PT (X.blk s H scope (compEnvC scope cl C X.env) fp) c (LfT X.K T noW mt))
    (he : ∀ (s : Shared) (H : Hp) (C : Addr) (cl : List (Str × Addr)) (fp : List Addr), PE (X.blk s H scope (compEnvC scope cl C X.env) fp) elt (Lf X.K T noW me)) (hs : ∀ x, foldedSetIterable iter X.env x = pure x := by intro _; rfl) :
    PE X (.ListComp elt [⟨tgt, iter, [c], 0⟩] scope pos) (Lf X.K T Wx (mLc mi tg mt me (own.map (·.2)))) :=
  PE.wk (pe_lc hc hN hi ok hg (fun s H C cl fp => pts_one (ht s H C cl fp)) he hs) fun _ _ _ h => lcM_ok og (fun _ _ _ h => h) h
theorem lcS_ok {m : ME} {te : TE} {i : Nat} {D : Ends} {σ : L2.St} {H : Hp} (ht : ∀ σ H Q, Lf X.K T Wx m σ H Q → te σ H Q) (h : LfS X.K T Wx (mAsg m (.nm i)) D σ H) : tAsg te (gName i) D σ H := by
  obtain ⟨RX, e, M, DM, b, h, k⟩ := h
  exact ht _ _ _ (one_ok b h fun w M1 v H1 x1 r1 p1 h1 => k.nx _ M1 _ H1 x1 ((b.env.grow x1.grow).set p1 i) r1 h1)
/-- name = [..] on one line -/
theorem ms_setLc {i : Nat} {y : Str} {py spos : Pos} {elt tgt iter : Expr} {scope : Scope} {own : List (Str × Nat)} {mi : MI} {tg : Tg} {g : TG} {me : ME} (hc : X.calm = true) (hN : X.N.Nodup) (hi : PI X tgt iter (LfI X.K T Wx mi)) (og : GOkW X.K (own.map (·.2)) tg g) (ok : BlkOk X.N X.env.scope scope own)
    (hg : ∀ (s : Shared) (H : Hp) (C : Addr) (cl : List (Str × Addr)) (fp : List Addr), PG (X.blk s H scope (compEnvC scope cl C X.env) fp) tgt g)
    (he : ∀ (s : Shared) (H : Hp) (C : Addr) (cl : List (Str × Addr)) (fp : List Addr), PE (X.blk s H scope (compEnvC scope cl C X.env) fp) elt (Lf X.K T noW me)) (hy : X.N[i]? = some y := by rfl) (hyl : X.env.scope.names.lookup y = some .local := by rfl)
    (hsw : swapsWith (.ListComp elt [⟨tgt, iter, [], 0⟩] scope pos) (some (.Name y py)) spos.line X.env = pure true := by exact sw_true rfl rfl rfl (by decide +kernel)) (hs : ∀ x, foldedSetIterable iter X.env x = pure x := by intro _; rfl) :
    PS X (.Assign [.Name y py] (.ListComp elt [⟨tgt, iter, [], 0⟩] scope pos) spos) (LfS X.K T Wx (mAsg (mLc mi tg mYes me (own.map (·.2))) (.nm i))) :=
  PS.wk (ps_setLc hc hN hy hyl hsw hi ok hg (fun _ _ _ _ _ => pts_nil) he hs) fun _ _ _ h => lcS_ok (fun _ _ _ h => lcM_ok og (fun _ _ _ => mt_yes) h) h
theorem ms_setLcI {i : Nat} {y : Str} {py spos : Pos} {elt tgt iter c : Expr} {scope : Scope} {own : List (Str × Nat)} {mi : MI} {tg : Tg} {g : TG} {mt : MT} {me : ME} (hc : X.calm = true) (hN : X.N.Nodup) (hi : PI X tgt iter (LfI X.K T Wx mi)) (og : GOkW X.K (own.map (·.2)) tg g) (ok : BlkOk X.N X.env.scope scope own)
    (hg : ∀ (s : Shared) (H : Hp) (C : Addr) (cl : List (Str × Addr)) (fp : List Addr), PG (X.blk s H scope (compEnvC scope cl C X.env) fp) tgt g)
    (ht : ∀ (s : Shared) (H : Hp) (C : Addr) (cl : List (Str × Addr)) (fp : List Addr), PT (X.blk s H scope (compEnvC scope cl C X.env) fp) c (LfT X.K T noW mt))
    (he : ∀ (s : Shared) (H : Hp) (C : Addr) (cl : List (Str × Addr)) (fp : List Addr), PE (X.blk s H scope (compEnvC scope cl C X.env) fp) elt (Lf X.K T noW me)) (hy : X.N[i]? = some y := by rfl) (hyl : X.env.scope.names.lookup y = some .local := by rfl)
    (hsw : swapsWith (.ListComp elt [⟨tgt, iter, [c], 0⟩] scope pos) (some (.Name y py)) spos.line X.env = pure true := by exact sw_true rfl rfl rfl (by decide +kernel)) (hs : ∀ x, foldedSetIterable iter X.env x = pure x := by intro _; rfl) :
    PS X (.Assign [.Name y py] (.ListComp elt [⟨tgt, iter, [c], 0⟩] scope pos) spos) (LfS X.K T Wx (mAsg (mLc mi tg mt me (own.map (·.2))) (.nm i))) :=
  PS.wk (ps_setLc hc hN hy hyl hsw hi ok hg (fun s H C cl fp => pts_one (ht s H C cl fp)) he hs) fun _ _ _ h => lcS_ok (fun _ _ _ h => lcM_ok og (fun _ _ _ h => h) h) h
end
end ML


set_option Elab.async false
set_option linter.all false
set_option maxRecDepth 100000
set_option maxHeartbeats 2000000
namespace ML
open PySem PySem.Spec PyProof.Rows L2
/-! ### a def of the text -/
/-- what is wanted of a result, the map perhaps smaller -/
def fg (R : MK) : MK := fun w M' => ∃ M2, Sub M2 M' ∧ R w M2
def fgX (RX : MX) : MX := fun C M' => ∃ M2, Sub M2 M' ∧ RX C M2
theorem fg_of {R : MK} {w : W} {M : Mh} (h : R w M) : fg R w M := ⟨M, Sub.refl, h⟩
def startM (n : Nat) (ws : List W) : MEnv := ws.map some ++ List.replicate (n - ws.length) none
def mDef (n : Nat) (body : MS) : MSp := fun RX ws M R => body (fgX RX) { nx := fun _ M' => fg R .non M', rt := fg R } (startM n ws) M
theorem repE_start {K : PySem.W.Frag} {H : Hp} {N : List Str} {ws : List W} {vs : List V} (p : Reps K H ws vs) : RepE K H (startM N.length ws) (L2.start N vs) := by
  unfold startM L2.start
  refine ⟨by rw [List.length_append, List.length_append, List.length_map, List.length_map, List.length_replicate, List.length_replicate, p.length], fun i w h => ?_⟩
  by_cases hi : i < ws.length
  · rw [List.getElem?_append_left (by rw [List.length_map]; exact hi), List.getElem?_map] at h
    obtain ⟨w', hw', e⟩ := Option.map_eq_some_iff.mp h
    have e := Option.some.inj e
    subst e
    obtain ⟨v, hv, pv⟩ := p.get hw'
    refine ⟨v, ?_, pv⟩
    rw [List.getElem?_append_left (by rw [List.length_map, p.length]; exact hi), List.getElem?_map, hv]
    rfl
  · rw [List.getElem?_append_right (by rw [List.length_map]; omega), List.getElem?_replicate] at h
    split at h <;> cases h
section
variable {P : Program} {w : World} {K : PySem.W.Frag} {mg : Str → Option Value} {base : Heap} {T : List (Addr × Str)} {gd : Bool}
abbrev fnW (E : XK) : WX := fun cls d _ H => E cls d H
/-- THE RULE for a def of the text -/
theorem fnG_of {x qual : Str} {st : Stmt} {f : Addr} {fd : FuncData} {N ps : List Str} {k n : Nat} {body : MS} (F : Fun K x qual st f fd) (S : FnScope N ps (defScope st)) (hn : ps.length = n)
    (hbody : ∀ (cdv : Value) (A : Around) (outer : List Env) (s : Shared) (H : Hp) (E : XK), Room k (A.deeper (envOfC qual (defScope st) s.heap.objs.size f cdv)) → (gd = true → A.guards = some []) →
      PSs (cxOf (L2.CX P w) P w K mg base N qual (defScope st) f cdv A outer s H E) (defBody st) (LfS K T (fnW E) body)) : FnG P w K mg base T gd (k + 1) f fd ps n (mDef N.length body) := by
  obtain ⟨oc, od, kV, doc, pm, an, cdv, ct, osl, rfl, lk, hcd⟩ := F.ex
  refine ⟨hn, fun A outer s H args us vs Q E hr gA e0 hb r hsp => ?_⟩
  have hl : vs.length = ps.length := by rw [hsp.len, hn]
  refine LamX.run_ofS lk hcd S hr e0 hb r hl fun hr' => ⟨_, hbody cdv A outer s H E hr' gA, ?_⟩
  obtain ⟨RX, ws, M, R, lw, pw, rl, h, kR, kX⟩ := hsp
  refine ⟨fgX RX, startM N.length ws, M, _, ⟨repE_start pw, rl, fun C M' σ' H' x r' ⟨M2, s2, q⟩ => kX C M2 H' (x.sub s2) (r'.sub s2) q⟩, h, ?_⟩
  exact ⟨fun e' M' σ' H' x _ r' ⟨M2, s2, q⟩ => kR .non M2 .non H' (x.sub s2) (r'.sub s2) (by simp only [Rep]) q, fun w' M' v H' x r' p ⟨M2, s2, q⟩ => kR w' M2 v H' (x.sub s2) (r'.sub s2) p q, fun _ _ _ _ _ _ _ z => z, fun _ _ _ _ _ _ _ z => z⟩
/-- a weaker promise -/
theorem FnG.imp {k : Nat} {f : Addr} {fd : FuncData} {ps : List Str} {n : Nat} {sp sp' : MSp} (F : FnG P w K mg base T gd k f fd ps n sp) (h : ∀ RX ws M R, ws.length = n → sp' RX ws M R → sp RX ws M R) : FnG P w K mg base T gd k f fd ps n sp' := by
  refine ⟨F.len, fun A outer s H args us vs Q E hr gA e0 hb r hsp => F.run A outer s H args us vs Q E hr gA e0 hb r ?_⟩
  obtain ⟨RX, ws, M, R, lw, pw, rl, q, kR, kX⟩ := hsp
  exact ⟨RX, ws, M, R, lw, pw, rl, h RX ws M R lw q, kR, kX⟩
end
/-! ### methods of lists -/
def lstAt (M : Mh) : W → Option (List W)
  | .ref a => match M a with
    | some (.lst ws) => some ws
    | _ => none
  | _ => none
def mMeth (f : W → List W → Mh → MK → Prop) (mo : ME) (ms : List ME) : ME := fun RX e M R => mo RX e M fun x M1 => (lstAt M1 x).isSome = true ∧ mArgs ms RX e M1 fun ws M2 => f x ws M2 R
def MetM (X : Cx) (T : List (Addr × Str)) (r : V → List V → Hp → VK → Prop) (f : W → List W → Mh → MK → Prop) : Prop :=
  ∀ x ws M R v vs H Q, Rel X.K T M H → Rep X.K H x v → Reps X.K H ws vs → f x ws M R → (∀ w M' v' H', Ext M H M' H' → Rel X.K T M' H' → Rep X.K H' w v' → R w M' → Q v' H') → r v vs H Q
section
variable {X : Cx} {T : List (Addr × Str)} {Wx : WX} {pos : Pos}
theorem lst_ty {K : PySem.W.Frag} {M : Mh} {H : Hp} {x : W} {v : V} (r : Rel K T M H) (p : Rep K H x v) (h : (lstAt M x).isSome = true) : tyV K "list" v H := by
  unfold lstAt at h
  split at h
  · rename_i a
    split at h
    · rename_i ws e
      obtain ⟨us, e2, _⟩ := r.ob a _ e
      simp only [Rep] at p
      subst p
      exact Or.inl ⟨rfl, _, Or.inl (Or.inl e2)⟩
    · cases h
  · cases h
theorem me_meth {o e : Expr} {es : List Expr} {mo : ME} {ms : List ME} {name : Str} {apos cpos : Pos} {id : String} {r : V → List V → Hp → VK → Prop} {f : W → List W → Mh → MK → Prop} (slot : Slot "list" name id) (hty : typeOf (.builtin id) = pure (.type "method_descriptor")) (hm : MtR X id r) (hf : MetM X T r f)
    (ho : PE X o (Lf X.K T Wx mo)) (ha : PA X (e :: es) (tCh X.K T Wx ms)) (hbase : attributeBase o name X.env (eval o X.env) = eval o X.env := by rfl)
    (hfew : ((backTo cpos (starEach (e :: es) X.env)).all (fun x => !x.1) && (backToKw cpos (keywordEach [] X.env)).all (fun x => x.1.isSome)
      && decide ((e :: es).length + ([] : List Keyword).length + (if ([] : List Keyword).isEmpty then 0 else 1) < 30)) = true := by rfl)
    (hline : (apos.endLine == cpos.line) = true := by rfl) (hs : starEach (e :: es) X.env = (false, eval e X.env) :: starEach es X.env := by rfl) (hplain : (backTo cpos (starEach es X.env)).any (·.1) = false := by rfl) :
    PE X (.Call (.Attribute o name apos) (e :: es) [] cpos) (Lf X.K T Wx (mMeth f mo ms)) := by
  refine PE.wk (pe_bm PySem.F.plainAttrs_list slot hty hm ho ha hbase hfew hline hs hplain) fun σ H Q h => ?_
  obtain ⟨RX, e, M, R, b, h, k⟩ := h
  refine one_ok b h fun x M1 v H1 x1 r1 p1 h1 => ⟨lst_ty r1 p1 h1.1, ?_⟩
  exact chain_ok (b.next x1 r1) h1.2 fun ws M2 vs H2 hz x2 r2 p2 h2 => hf x ws M2 R v vs H2 Q r2 (p1.grow x2.grow) p2 h2 fun w M' v' H' x3 => k w M' v' H' ((x1.trans x2).trans x3)
theorem me_meth0 {o : Expr} {mo : ME} {name : Str} {apos cpos : Pos} {id : String} {r : V → List V → Hp → VK → Prop} {f : W → List W → Mh → MK → Prop} (slot : Slot "list" name id) (hty : typeOf (.builtin id) = pure (.type "method_descriptor")) (hm : MtR X id r) (hf : MetM X T r f)
    (ho : PE X o (Lf X.K T Wx mo)) (hbase : attributeBase o name X.env (eval o X.env) = eval o X.env := by rfl) (hline : (apos.endLine == cpos.line) = true := by rfl) :
    PE X (.Call (.Attribute o name apos) [] [] cpos) (Lf X.K T Wx (mMeth f mo [])) := by
  refine PE.wk (pe_bm0 PySem.F.plainAttrs_list slot hty hm ho hbase hline) fun σ H Q h => ?_
  obtain ⟨RX, e, M, R, b, h, k⟩ := h
  refine one_ok b h fun x M1 v H1 x1 r1 p1 h1 => ⟨lst_ty r1 p1 h1.1, ?_⟩
  exact hf x [] M1 R v [] H1 Q r1 p1 Reps.nil h1.2 fun w M' v' H' x3 => k w M' v' H' (x1.trans x3)
def fAppend : W → List W → Mh → MK → Prop := fun x ws M R => match x, ws with
  | .ref a, [w] => match M a with
    | some (.lst xs) => xs.length < sizeLine ∧ R .non (updM M a (.lst (xs ++ [w])))
    | _ => False
  | _, _ => False
theorem met_append : MetM X T rAppend fAppend := by
  intro x ws M R v vs H Q r p1 p2 h k
  unfold fAppend at h
  split at h
  · rename_i a w
    split at h
    · rename_i xs e
      obtain ⟨us, e2, q⟩ := r.ob a _ e
      simp only [Rep] at p1
      obtain ⟨y, z, rfl, a1, b1⟩ := p2.cons_inv
      rw [b1.nil_inv]
      exact ⟨a, us, y, p1, rfl, e2, by rw [q.length]; exact h.1, k _ _ _ _ (Ext.setL r e e2) (r.setL e e2 (q.append (Reps.cons a1 Reps.nil))) (by simp only [Rep]) h.2⟩
    · exact h.elim
  · exact h.elim
def fExtend : W → List W → Mh → MK → Prop := fun x ws M R => match x, ws with
  | .ref a, [.ref b] => match M a, M b with
    | some (.lst xs), some (.lst ys) => xs.length + ys.length ≤ sizeLine ∧ R .non (updM M a (.lst (xs ++ ys)))
    | _, _ => False
  | _, _ => False
theorem met_extend : MetM X T rExtend fExtend := by
  intro x ws M R v vs H Q r p1 p2 h k
  unfold fExtend at h
  split at h
  · rename_i a b
    split at h
    · rename_i xs ys e e'
      obtain ⟨us, e2, q⟩ := r.ob a _ e
      obtain ⟨us', e2', q'⟩ := r.ob b _ e'
      simp only [Rep] at p1
      obtain ⟨y, z, rfl, a1, b1⟩ := p2.cons_inv
      simp only [Rep] at a1
      rw [b1.nil_inv, a1]
      exact ⟨a, b, us, us', p1, rfl, e2, e2', by rw [q.length, q'.length]; exact h.1, k _ _ _ _ (Ext.setL r e e2) (r.setL e e2 (q.append q')) (by simp only [Rep]) h.2⟩
    · exact h.elim
  · exact h.elim
/-- xs.pop(i), i from 0 on -/
def fPopAt : W → List W → Mh → MK → Prop := fun x ws M R => match x, ws with
  | .ref a, [.int i] => match M a with
    | some (.lst xs) => 0 ≤ i ∧ i < 2 ^ 63 ∧ match xs[i.toNat]? with
      | some w => R w (updM M a (.lst (xs.eraseIdx i.toNat)))
      | none => False
    | _ => False
  | _, _ => False
theorem met_popAt : MetM X T rPopAt fPopAt := by
  intro x ws M R v vs H Q r p1 p2 h k
  unfold fPopAt at h
  split at h
  · rename_i a i
    split at h
    · rename_i xs e
      obtain ⟨h0, h1, h⟩ := h
      split at h
      · rename_i w hw
        obtain ⟨us, e2, q⟩ := r.ob a _ e
        simp only [Rep] at p1
        obtain ⟨y, z, rfl, a1, b1⟩ := p2.cons_inv
        simp only [Rep] at a1
        rw [b1.nil_inv, a1]
        obtain ⟨u, hu, pu⟩ := q.get hw
        have lt : i.toNat < us.length := (List.getElem?_eq_some_iff.mp hu).1
        exact ⟨a, us, i, i.toNat, u, p1, rfl, e2, by omega, h1, seqIndex_of h0 (by omega), hu, k _ _ _ _ (Ext.setL r e e2) (r.setL e e2 (q.erase _)) (pu.grow (Grow.set e2 trivial)) h⟩
      · exact h.elim
    · exact h.elim
  · exact h.elim
/-- xs.pop() -/
def fPop : W → List W → Mh → MK → Prop := fun x ws M R => match x, ws with
  | .ref a, [] => match M a with
    | some (.lst xs) => match xs[xs.length - 1]? with
      | some w => R w (updM M a (.lst (xs.take (xs.length - 1))))
      | none => False
    | _ => False
  | _, _ => False
theorem met_pop : MetM X T rPop fPop := by
  intro x ws M R v vs H Q r p1 p2 h k
  unfold fPop at h
  split at h
  · rename_i a
    split at h
    · rename_i xs e
      split at h
      · rename_i w hw
        obtain ⟨us, e2, q⟩ := r.ob a _ e
        simp only [Rep] at p1
        rw [p2.nil_inv]
        obtain ⟨u, hu, pu⟩ := q.get hw
        refine ⟨a, us, u, p1, rfl, e2, by rw [q.length]; exact hu, ?_⟩
        rw [List.dropLast_eq_take, q.length]
        exact k _ _ _ _ (Ext.setL r e e2) (r.setL e e2 (q.take _)) (pu.grow (Grow.set e2 trivial)) h
      · exact h.elim
    · exact h.elim
  · exact h.elim
/-- xs.index(y) that is found -/
def fIndex : W → List W → Mh → MK → Prop := fun x ws M R => match ws with
  | [y] => match dat M 8 x, dat M 8 y with
    | some (.list ds), some d => SeqAt.shaped (.list ds) = true ∧ SeqAt.shaped d = true ∧ match ds.findIdx? (fun z => PyData.eqv z d) with
      | some j => R (.int (j : Nat)) M
      | none => False
    | _, _ => False
  | _ => False
theorem met_index : MetM X T (rIndexD X.K) fIndex := by
  intro x ws M R v vs H Q r p1 p2 h k
  unfold fIndex at h
  split at h
  · rename_i y
    split at h
    · rename_i ds d e1 e2
      obtain ⟨s1, s2, h⟩ := h
      split at h
      · rename_i j hj
        obtain ⟨u, z, rfl, a1, b1⟩ := p2.cons_inv
        rw [b1.nil_inv]
        have D1 := dat_ok r _ _ _ _ e1 p1
        have D2 := dat_ok r _ _ _ _ e2 a1
        obtain ⟨hlt, hp, hno⟩ := List.findIdx?_eq_some_iff_getElem.mp hj
        have ⟨a, ea⟩ : ∃ a, v = .ref a := by cases D1 with
          | lst _ _ => exact ⟨_, rfl⟩
        subst ea
        refine ⟨a, u, d, ds, j, ds[j], rfl, rfl, D1, D2, s1, s2, by simp [hlt], hp, fun m z' hm hz' => ?_, k _ M _ H Ext.refl r (by simp only [Rep]) h⟩
        obtain ⟨lm, em⟩ := List.getElem?_eq_some_iff.mp hz'
        rw [← em]
        have := hno m hm
        simpa using this
      · exact h.elim
    · exact h.elim
  · exact h.elim
/-! ### -x, dicts -/
def mNeg (m : ME) : ME := fun RX e M R => m RX e M fun w M1 => match w with
  | .int i => R (.int (-i)) M1
  | _ => False
theorem me_neg {a : Expr} {m : ME} (ha : PE X a (Lf X.K T Wx m)) : PE X (.UnaryOp .USub a pos) (Lf X.K T Wx (mNeg m)) := by
  refine PE.wk (pe_un un_neg ha) fun σ H Q h => ?_
  obtain ⟨RX, e, M, R, b, h, k⟩ := h
  refine one_ok b h fun w M1 v H1 x1 r1 p1 h1 => ?_
  split at h1
  · simp only [Rep] at p1
    exact ⟨_, p1, k _ M1 _ H1 x1 r1 (by simp only [Rep]) h1⟩
  · exact h1.elim
def mDGet (mo mi : ME) : ME := fun RX e M R => mo RX e M fun o M1 => mi RX e M1 fun i M2 => match o, keyOf i with
  | .ref a, some k => match M2 a with
    | some (.dct kvs) => match getW kvs k with
      | some w => R w M2
      | none => False
    | _ => False
  | _, _ => False
theorem me_dget {o i : Expr} {mo mi : ME} (hu : X.A.units + 1 < cLine) (ho : PE X o (Lf X.K T Wx mo)) (hi : PE X i (Lf X.K T Wx mi)) (hs : NoSl i := by exact fun _ _ => rfl) : PE X (.Subscript o i pos) (Lf X.K T Wx (mDGet mo mi)) := by
  refine PE.wk (pe_dget hu ho hi hs) fun σ H Q h => ?_
  obtain ⟨RX, e, M, R, b, h, k⟩ := h
  refine two_ok b h fun x y M2 v u H2 x2 r2 p1 p2 h2 => ?_
  split at h2
  · rename_i a key ek
    split at h2
    · rename_i kvs e2
      split at h2
      · rename_i w hw
        obtain ⟨us, e3, q⟩ := r2.ob a _ e2
        simp only [Rep] at p1
        have ey := p2.key ek
        subst ey
        rcases q.val key with ⟨z, _⟩ | ⟨w', z, g1, g2, g3⟩
        · rw [z] at hw; cases hw
        · rw [hw] at g1; cases g1
          exact ⟨a, z, p1, by rw [← g2]; exact DGet.k (k := key) e3, k w M2 z H2 x2 r2 g3 h2⟩
      · exact h2.elim
    · exact h2.elim
  · exact h2.elim
/-- o[i] = v, o a list or a dict -/
def mPut (mv mo mi : ME) : MS := fun RX D e M => mv RX e M fun v M1 => mo RX e M1 fun o M2 => mi RX e M2 fun i M3 => match o with
  | .ref a => match M3 a with
    | some (.lst ws) => match i with
      | .int k => match ixN ws.length k with
        | some j => D.nx e (updM M3 a (.lst (ws.set j v)))
        | none => False
      | _ => False
    | some (.dct kvs) => match keyOf i with
      | some k => kvs.length < sizeLine ∧ D.nx e (updM M3 a (.dct (putW kvs k v)))
      | none => False
    | _ => False
  | _ => False
def rSetM : TSet := fun o i v H Q => rSetL o i v H Q ∨ ∃ a H', o = .ref a ∧ DPut H a i v H' ∧ Q H'
theorem set_M (hu : X.A.units + 1 < cLine) : PSet X rSetM := by
  intro pins s σ H o i v ov iv u Q I ro ri rv h
  rcases h with h | ⟨a, H', rfl, g, q⟩
  · exact set_list pins s σ H o i v ov iv u Q I ro ri rv h
  · obtain rfl : ov = Value.ref a := ro
    exact d_setItem hu I g ri rv fun s' I' => ⟨H', I', q⟩
theorem ms_put {o i e : Expr} {mv mo mi : ME} {pos' : Pos} (hu : X.A.units + 1 < cLine) (hv : PE X e (Lf X.K T Wx mv)) (ho : PE X o (Lf X.K T Wx mo)) (hi : PE X i (Lf X.K T Wx mi))
    (ha : ∀ v, assign (.Subscript o i pos') X.env v = (do
      let ov ← holding [v] (eval o X.env)
      let iv ← holding [v, ov] (eval i X.env)
      standAt pos'
      holding [v, ov, iv] (setItem ov iv v)
      release [v, ov, iv] []) := by intro _; rfl) (hs : swapsWithSole [.Subscript o i pos'] e pos.line X.env = pure false := by rfl) (hw : swappedStores [.Subscript o i pos'] e X.env = pure none := by rfl)
    (h1 : (assignEach [.Subscript o i pos'] X.env).map (·.2) = [assign (.Subscript o i pos') X.env] := by rfl) : PS X (.Assign [.Subscript o i pos'] e pos) (LfS X.K T Wx (mPut mv mo mi)) := by
  refine PS.wk (ps_asg hv (pg_sub ho hi (set_M hu) ha) hs hw h1) fun D σ H h => ?_
  obtain ⟨RX, e, M, DM, b, h, k⟩ := h
  refine one_ok b h fun w M1 v H1 x1 r1 p1 h1 => ?_
  refine two_ok (q := fun o i H2 => rSetM o i v H2 fun H3 => D.nx σ H3) (b.next x1 r1) h1 fun x y M2 ov iv H2 x2 r2 p2 p3 h2 => ?_
  have pw := p1.grow x2.grow
  have fin : ∀ {M' H'}, Ext M2 H2 M' H' → Rel X.K T M' H' → DM.nx e M' → D.nx σ H' := fun {M' H'} x3 r3 q => k.nx e M' σ H' ((x1.trans x2).trans x3) (b.env.grow ((x1.trans x2).trans x3).grow) r3 q
  split at h2
  · rename_i a
    simp only [Rep] at p2
    subst p2
    split at h2
    · rename_i ws e2
      obtain ⟨us, e3, q⟩ := r2.ob a _ e2
      split at h2
      · rename_i kk
        split at h2
        · rename_i j hj
          simp only [Rep] at p3
          exact .inl ⟨a, us, kk, j, rfl, p3, e3, by rw [q.length]; exact hj, fin (Ext.setL r2 e2 e3) (r2.setL e2 e3 (q.set pw j)) h2⟩
        · exact h2.elim
      · exact h2.elim
    · rename_i kvs e2
      obtain ⟨us, e3, q⟩ := r2.ob a _ e2
      split at h2
      · rename_i key ek
        have ey := p3.key ek
        subst ey
        exact .inr ⟨a, _, rfl, DPut.k (k := key) e3 (by rw [q.length]; exact h2.1), fin (Ext.setD r2 e2 e3) (r2.setD e2 e3 (q.put pw)) h2.2⟩
      · exact h2.elim
    · exact h2.elim
  · exact h2.elim
end
end ML


set_option Elab.async false
set_option linter.all false
set_option maxRecDepth 100000
set_option maxHeartbeats 2000000
namespace ML
open PySem PySem.Spec PyProof.Rows L2
/-! ### xs[lo:hi] = ys -/
def mPutSl (mv mo ml mh : ME) : MS := fun RX D e M => mv RX e M fun v M1 => mo RX e M1 fun o M2 => mPart (some ml) RX e M2 fun l M3 => mPart (some mh) RX e M3 fun u M4 => match o, v, l, u with
  | .ref a, .ref b, some i, some j => a ≠ b ∧ match M4 a, M4 b with
    | some (.lst xs), some (.lst ys) => 0 ≤ i ∧ i ≤ j ∧ j ≤ xs.length ∧ xs.length + ys.length ≤ sizeLine ∧ D.nx e (updM M4 a (.lst (xs.take i.toNat ++ ys ++ xs.drop j.toNat)))
    | _, _ => False
  | _, _, _, _ => False
section
variable {X : Cx} {T : List (Addr × Str)} {Wx : WX} {pos : Pos}
theorem ms_putSl {o lo hi e : Expr} {mv mo ml mh : ME} {p2 pos' : Pos} (hv : PE X e (Lf X.K T Wx mv)) (ho : PE X o (Lf X.K T Wx mo)) (hl : PE X lo (Lf X.K T Wx ml)) (hu : PE X hi (Lf X.K T Wx mh)) (hs : swapsWith e (some (.Subscript o (.Slice (some lo) (some hi) none p2) pos')) pos.line X.env = pure false := by rfl) :
    PS X (.Assign [.Subscript o (.Slice (some lo) (some hi) none p2) pos'] e pos) (LfS X.K T Wx (mPutSl mv mo ml mh)) := by
  refine ⟨fun pins s σ H D I h => ?_⟩
  obtain ⟨RX, e0, M, DM, b, h, k⟩ := h
  have h1 : Lf X.K T Wx mv σ H fun v H1 => Lf X.K T Wx mo σ H1 fun ov H2 => LfO X.K T Wx (some ml) σ H2 fun lv H3 => LfO X.K T Wx (some mh) σ H3 fun uv H4 =>
      ∃ (a c : Addr) (i j : Int) (xs ys : List V), ov = .ref a ∧ v = .ref c ∧ lv = some i ∧ uv = some j ∧ a ≠ c ∧ H4 a = some (.lst xs) ∧ H4 c = some (.lst ys) ∧ 0 ≤ i ∧ i ≤ j ∧ j ≤ xs.length ∧ xs.length + ys.length ≤ sizeLine ∧ D.nx σ (upd H4 a (.lst (xs.take i.toNat ++ ys ++ xs.drop j.toNat))) := by
    refine one_ok b h fun v M1 vv H1 x1 r1 p1 h1 => ?_
    refine one_ok (b.next x1 r1) h1 fun o M2 ov H2 x2 r2 p2 h2 => ?_
    refine part_ok ((b.next x1 r1).next x2 r2) h2 fun l M3 H3 x3 r3 h3 => ?_
    refine part_ok (((b.next x1 r1).next x2 r2).next x3 r3) h3 fun u M4 H4 x4 r4 h4 => ?_
    have x := ((x1.trans x2).trans x3).trans x4
    split at h4
    · rename_i a c i j
      simp only [Rep] at p1 p2
      obtain ⟨ne, h4⟩ := h4
      split at h4
      · rename_i xs ys ea ec
        obtain ⟨us, d1, q1⟩ := r4.ob a _ ea
        obtain ⟨us', d2, q2⟩ := r4.ob c _ ec
        obtain ⟨c1, c2, c3, c4, c5⟩ := h4
        have q : Reps X.K H4 (xs.take i.toNat ++ ys ++ xs.drop j.toNat) (us.take i.toNat ++ us' ++ us.drop j.toNat) := ((q1.take _).append q2).append (q1.drop _)
        exact ⟨a, c, i, j, us, us', p2, p1, rfl, rfl, ne, d1, d2, c1, c2, by rw [q1.length]; exact c3, by rw [q1.length, q2.length]; exact c4, k.nx _ _ _ _ (x.trans (Ext.setL r4 ea d1)) ((b.env.grow x.grow).grow (Ext.setL (ws' := xs.take i.toNat ++ ys ++ xs.drop j.toNat) r4 ea d1).grow) (r4.setL ea d1 q) c5⟩
      · exact h4.elim
    · exact h4.elim
  refine wpAny_Assign_Subscript (thn (hv.run pins s σ H _ I h1) fun r s1 ⟨v, H1, I1, rv, q1⟩ => thn (ho.run pins s1 σ H1 _ I1 q1) fun u s2 ⟨ov, H2, I2, ro, q2⟩ => ?_) hs
  refine wpAny_Slice (thn ((mo_some hl).run pins s2 σ H2 _ I2 q2) fun vl s3 ⟨l, H3, I3, pl, q3⟩ => thn ((mo_some hu).run pins s3 σ H3 _ I3 q3) fun vu s4 ⟨uo, H4, I4, pu, a, c, i, j, xs, ys, e1, e2, e3, e4, ne, d1, d2, c1, c2, c3, c4, fin⟩ => ?_)
  rw [evalPart_none]
  refine wpAny_pure ?_
  have I5 : Inv X pins σ H4 { s4 with heap := s4.heap.push { cls := .type "slice", data := .fields #[vl, vu, .none] } } := I4.kept (t' := s4.toks) fun b ob q => Heap.get?_push_of_some _ q
  subst e1 e2 e3 e4
  obtain rfl : u = Value.ref a := ro
  obtain rfl : r = Value.ref c := rv
  exact set_slice I5 d1 d2 ne (Heap.IsSliceOf.new ..) (by cases pl with | int i t => exact ⟨t, rfl⟩) (by cases pu with | int i t => exact ⟨t, rfl⟩) c1 c2 c3 c4 fun s' I' => ⟨σ, _, I', fin⟩
end
end ML


set_option Elab.async false
set_option linter.all false
set_option maxRecDepth 100000
set_option maxHeartbeats 2000000
namespace ML
open PySem PySem.Spec PyProof.Rows L2
section
variable {K : PySem.W.Frag} {T : List (Addr × Str)} {M : Mh} {H : Hp} {D : Addr} {h₀ ho : HO} {o : MO}
/-- a thing that the map does not own comes into it, written -/
theorem Rel.take (r : Rel K T M H) (hD : H D = some h₀) (mu : Mut (some h₀)) (nt : (∃ xs, h₀ = .lst xs) ∨ (∃ xs, h₀ = .dK xs)) (n : ¬ Own M H D) (nd : ∀ n, o ≠ .drw n) (q : RepO K (updM M D o) (upd H D ho) D o) : Rel K T (updM M D o) (upd H D ho) := by
  have g : Grow H (upd H D ho) := Grow.set hD mu
  have kk : ∀ b u, b ≠ D → H b = some u → upd H D ho b = some u := fun b u z e => by rw [upd_ne z]; exact e
  refine ⟨fun a o' e => ?_, tabs_of r.tab fun b u n1 n2 n3 e => kk b u (fun z => by
    subst z; rw [hD] at e; cases e
    rcases nt with ⟨xs, z⟩ | ⟨xs, z⟩
    · exact n1 _ z
    · exact n2 _ z) e⟩
  by_cases z : a = D
  · subst z
    rw [updM_same] at e; cases e
    exact q
  · rw [updM_ne z] at e
    have q0 := r.ob a o' e
    cases o' with
    | lst ws => obtain ⟨us, e2, p⟩ := q0; exact ⟨us, kk _ _ z e2, p.grow g⟩
    | dct ws => obtain ⟨us, e2, p⟩ := q0; exact ⟨us, kk _ _ z e2, p.grow g⟩
    | ins C fs => obtain ⟨dx, us, e2, p⟩ := q0; exact ⟨dx, us, kk _ _ z e2, p.grow g⟩
    | exc c => exact kk _ _ z q0
    | drw m =>
      obtain ⟨⟨g1, c1, gs, cs, rest, turn, d, n1, n2, n3⟩, u⟩ := q0
      have ng : g1 ≠ D := fun z => n (.inr ⟨a, g1, c1, gs, cs, rest, turn, ⟨m, e⟩, d, .inl z.symm⟩)
      have nc : c1 ≠ D := fun z => n (.inr ⟨a, g1, c1, gs, cs, rest, turn, ⟨m, e⟩, d, .inr z.symm⟩)
      obtain ⟨d1, d2, d3, d4⟩ := d
      refine ⟨⟨g1, c1, gs, cs, rest, turn, ⟨kk _ _ z d1, kk _ _ ng d2, kk _ _ nc d3, d4⟩, by rw [updM_ne ng]; exact n1, by rw [updM_ne nc]; exact n2, n3⟩, fun b ⟨m, e⟩ => ?_⟩
      by_cases zb : b = D
      · subst zb; rw [updM_same] at e; exact absurd (Option.some.inj e) (nd _)
      · rw [updM_ne zb] at e; exact u b ⟨m, e⟩
theorem Own.of_take (r : Rel K T M H) (n : ¬ Own M H D) (nd : ∀ n, o ≠ .drw n) {a : Addr} (ha : a ≠ D) (w : Own (updM M D o) (upd H D ho) a) : Own M H a := by
  rcases w with w | ⟨s, g, c, gs, cs, rest, turn, e, d, z⟩
  · rw [updM_ne ha] at w; exact .inl w
  · obtain ⟨m, e⟩ := e
    have es : s ≠ D := fun z => by subst z; rw [updM_same] at e; exact nd _ (Option.some.inj e)
    rw [updM_ne es] at e
    obtain ⟨⟨g', c', gs', cs', rest', turn', d', _⟩, _⟩ := r.ob s _ e
    obtain ⟨e1, e2⟩ := d'.same d (by rw [upd_ne es])
    subst e1; subst e2
    exact .inr ⟨s, _, _, _, _, _, _, ⟨m, e⟩, d', z⟩
theorem Ext.take {M1 : Mh} {H1 : Hp} (x : Ext M1 H1 M H) (r : Rel K T M H) (h1 : H1 D = none) (hD : H D = some h₀) (mu : Mut (some h₀)) (n : ¬ Own M H D) (nd : ∀ n, o ≠ .drw n) : Ext M1 H1 (updM M D o) (upd H D ho) := by
  have nD : ∀ a u, H1 a = some u → a ≠ D := fun a u h z => by subst z; rw [h1] at h; cases h
  refine ⟨x.grow.trans (Grow.set hD mu), fun a u m e ow z => x.fr a u m e ow (z.of_take r n nd (nD a u e)), fun a u m e ow => ?_⟩
  rw [upd_ne (nD a u e)]; exact x.keep a u m e ow
end
/-! ### {k: e, ..} -/
def mergeW (kvs more : List (Key × W)) : List (Key × W) := more.foldl (fun acc kv => putW acc kv.1 kv.2) kvs
def mPairs : List (Key × ME) → MX → MEnv → Mh → (List (Key × W) → Mh → Prop) → Prop
  | [], _, _, M, R => R [] M
  | (k, m) :: r, RX, e, M, R => m RX e M fun w M1 => mPairs r RX e M1 fun ps M2 => R ((k, w) :: ps) M2
def mDict (ps : List (Key × ME)) : ME := fun RX e M R => mPairs ps RX e M fun kvs M1 => ∀ p, M1 p = none → R (.ref p) (updM M1 p (.dct (mergeW [] kvs)))
def trsOf (K : PySem.W.Frag) (T : List (Addr × Str)) (Wx : WX) (ps : List (Key × ME)) : List (TE × TE) := ps.map fun p => (Lf K T Wx (mC (kW p.1)), Lf K T Wx p.2)
section
variable {X : Cx} {K : PySem.W.Frag} {T : List (Addr × Str)} {Wx : WX} {pos : Pos}
theorem RepF.merge {H : Hp} : ∀ {more : List (Key × W)} {us : List (Key × V)} {acc : List (Key × W)} {vs : List (Key × V)}, RepF K H more us → RepF K H acc vs → RepF K H (mergeW acc more) (mergeK vs us)
  | [], us, acc, vs, h, a => by
    simp only [RepF] at h
    subst h
    exact a
  | (k, w) :: r, us, acc, vs, h, a => by
    obtain ⟨u, q, e, p, t⟩ := h
    subst e
    show RepF K H (mergeW (putW acc k w) r) (mergeK (putK vs k u) q)
    exact RepF.merge t (RepF.put p a)
theorem key_rep {H : Hp} {k : Key} {v : V} (h : Rep K H (kW k) v) : v = kV k := by
  cases k with
  | inl i => simp only [kW, Rep] at h; exact h
  | inr x => simp only [kW, Rep] at h; exact h
theorem pairs_ok : ∀ (ps : List (Key × ME)) {σ : L2.St} {H : Hp} {RX : MX} {e : MEnv} {M : Mh} {R : List (Key × W) → Mh → Prop} {Q : List (V × V) → Hp → Prop}, Base K T Wx σ H RX e M → mPairs ps RX e M R →
    (∀ kvs M' us H', Ext M H M' H' → Rel K T M' H' → RepF K H' kvs us → kvs.length = ps.length → R kvs M' → Q (us.map fun kv => (kV kv.1, kv.2)) H') → tPairs (trsOf K T Wx ps) σ H Q
  | [], σ, H, RX, e, M, R, Q, b, h, k => k [] M [] H Ext.refl b.rel (by simp only [RepF]) rfl h
  | (kk, m) :: r, σ, H, RX, e, M, R, Q, b, h, k => by
    show Lf K T Wx (mC (kW kk)) σ H fun x H1 => Lf K T Wx m σ H1 fun y H2 => tPairs (trsOf K T Wx r) σ H2 fun ps H3 => Q ((x, y) :: ps) H3
    refine one_ok b (k := fun w M1 => w = kW kk ∧ m RX e M1 fun w M1 => mPairs r RX e M1 fun ps M2 => R ((kk, w) :: ps) M2) ⟨rfl, h⟩ fun w M1 v H1 x1 r1 p1 h1 => ?_
    obtain ⟨rfl, h1⟩ := h1
    have ev := key_rep p1
    subst ev
    refine one_ok (b.next x1 r1) h1 fun w2 M2 v2 H2 x2 r2 p2 h2 => ?_
    refine pairs_ok r ((b.next x1 r1).next x2 r2) h2 fun kvs M3 us H3 x3 r3 p3 l3 h3 => ?_
    exact k ((kk, w2) :: kvs) M3 ((kk, v2) :: us) H3 ((x1.trans x2).trans x3) r3 (by simp only [RepF]; exact ⟨v2, us, rfl, p2.grow x3.grow, p3⟩) (by rw [List.length_cons, List.length_cons, l3]) h3
theorem mp_nil : PPs X pos [] [] (trsOf X.K T Wx []) := pps_nil
theorem mp_cons {kk : Key} {k v : Expr} {ks : List (Option Expr)} {vs : List Expr} {m : ME} {ps : List (Key × ME)} (hk : PE X k (Lf X.K T Wx (mC (kW kk)))) (hv : PE X v (Lf X.K T Wx m)) (hr : PPs X pos ks vs (trsOf X.K T Wx ps)) :
    PPs X pos (some k :: ks) (v :: vs) (trsOf X.K T Wx ((kk, m) :: ps)) := pps_cons hk hv hr
theorem me_dict {keys : List (Option Expr)} {values : List Expr} {ps : List (Key × ME)} (h : PPs X pos keys values (trsOf X.K T Wx ps)) (h15 : ps.length ≤ 15) (hall : keys.all (·.isSome) = true := by rfl) (hl : keys.length = values.length := by rfl) (h0 : keys ≠ [] := by exact fun z => by cases z)
    (hk15 : keys.length ≤ 15 := by decide) : PE X (.Dict keys values pos) (Lf X.K T Wx (mDict ps)) := by
  refine PE.wk (pe_disp h hall hl h0 hk15) fun σ H Q h => ?_
  obtain ⟨RX, e, M, R, b, h, k⟩ := h
  intro p hp
  have x0 : Ext M H M (upd H p (.dK [])) := Ext.hid b.rel hp
  have nO : ¬ Own M (upd H p (.dK [])) p := fun o => by
    rcases o with o | ⟨s, g, c, gs, cs, rest, turn, e, d, z⟩
    · exact o (b.rel.free hp)
    · obtain ⟨m, e⟩ := e
      obtain ⟨⟨g', c', gs', cs', rest', turn', d', _⟩, _⟩ := b.rel.ob s _ e
      have es : s ≠ p := fun z => by subst z; rw [d'.1] at hp; cases hp
      obtain ⟨e1, e2⟩ := d'.same d (by rw [upd_ne es])
      subst e1; subst e2
      rcases z with z | z
      · subst z; rw [d'.2.1] at hp; cases hp
      · subst z; rw [d'.2.2.1] at hp; cases hp
  refine pairs_ok ps (b.next x0 (b.rel.hid hp)) h fun kvs M1 us H1 x1 r1 q1 l1 h1 => ?_
  have hD := x1.keep p (.dK []) trivial upd_same nO
  have nw := x1.fr p (.dK []) trivial upd_same nO
  have hM : M1 p = none := by
    cases e : M1 p with
    | none => rfl
    | some o => exact absurd (.inl (by rw [e]; simp)) nw
  refine ⟨hD, us, rfl, by rw [q1.length, l1]; exact h15, ?_⟩
  refine k _ _ _ _ ((x0.trans x1).take r1 hp hD trivial nw (fun _ z => by cases z)) (r1.take (o := .dct (mergeW [] kvs)) hD trivial (.inr ⟨_, rfl⟩) nw (fun _ z => by cases z) ⟨_, upd_same, (RepF.merge q1 (by simp only [RepF])).grow (Grow.set hD trivial)⟩) (by simp only [Rep]) (h1 p hM)
end
end ML


set_option Elab.async false
set_option linter.all false
set_option maxRecDepth 100000
set_option maxHeartbeats 2000000
namespace ML
open PySem PySem.Spec PyProof.Rows L2
/-! ### repr of lists and tuples -/
def rShow (K : PySem.W.Frag) : List V → Hp → VK → Prop := fun xs H Q => ∃ (a : Addr) (d : PyData), xs = [.ref a] ∧ Dp K H (.ref a) d ∧ d.showable = true ∧ d.hasDict = false ∧ d.depth ≤ 64 ∧ d.shown.length ≤ sizeLine ∧ Q (.str d.shown) H
theorem call_show {X : Cx} {k : Nat} (gA : X.A.guards = some []) (hr : Room k X.A) : CallR X (.builtin "repr") (rShow X.K) := by
  intro pins s σ H xs us Q I r h
  obtain ⟨a, d, rfl, hd, h1, h2, h3, h4, q⟩ := h
  cases r with
  | cons ra rr =>
    cases rr
    obtain ⟨as, hs⟩ := Dp.reads I d _ _ hd ra
    cases ra
    refine repr_of_reads' hs h1 (PyData.noDict_hsm h2) gA (by have := hr.un; omega) (fun _ _ e => e) (fun h' u tk hk => ?_) h4
    exact ⟨.str d.shown, H, I.kept (t' := tk) hk, ⟨u, rfl⟩, q⟩
def datC (M : Mh) : W → Option PyData
  | .ref a => dat M 8 (.ref a)
  | .tup ws => dat M 8 (.tup ws)
  | _ => none
def fRepr : List W → Mh → MK → Prop := fun ws M R => match ws with
  | [x] => match datC M x with
    | some d => d.showable = true ∧ d.hasDict = false ∧ d.depth ≤ 64 ∧ d.shown.length ≤ sizeLine ∧ R (.str d.shown) M
    | none => False
  | _ => False
theorem mf_repr {X : Cx} {T : List (Addr × Str)} : FnM X T (rShow X.K) fRepr := by
  intro ws M R vs H Q r p h k
  unfold fRepr at h
  split at h
  · rename_i x
    split at h
    · rename_i d e
      obtain ⟨v, vr, rfl, p1, p2⟩ := p.cons_inv
      rw [p2.nil_inv]
      obtain ⟨h1, h2, h3, h4, q⟩ := h
      have ⟨a, ea, e2⟩ : ∃ a, v = .ref a ∧ dat M 8 x = some d := by
        cases x with
        | ref a => simp only [Rep] at p1; exact ⟨a, p1, e⟩
        | tup ws => simp only [Rep] at p1; obtain ⟨a, us, e1, _⟩ := p1; exact ⟨a, e1, e⟩
        | _ => cases e
      subst ea
      exact ⟨a, d, rfl, dat_ok r 8 x d _ e2 p1, h1, h2, h3, h4, k _ M _ H Ext.refl r (by simp only [Rep]) q⟩
    · exact h.elim
  · exact h.elim
end ML


set_option Elab.async false
set_option linter.all false
set_option maxRecDepth 100000
set_option maxHeartbeats 2000000
namespace ML
open PySem PySem.Spec PyProof.Rows L2
/-! ### a stable sort by int keys -/
def insK {α : Type} (p : Int × α) : List (Int × α) → List (Int × α)
  | [] => [p]
  | q :: r => if p.1 ≤ q.1 then p :: q :: r else q :: insK p r
def isK {α : Type} : List (Int × α) → List (Int × α)
  | [] => []
  | p :: r => insK p (isK r)
section
variable {α β : Type}
theorem mem_insK {p q : Int × α} : ∀ {l : List (Int × α)}, q ∈ insK p l → q = p ∨ q ∈ l
  | [], h => by simp [insK] at h; exact .inl h
  | r :: l, h => by
    unfold insK at h
    split at h
    · rcases List.mem_cons.mp h with h | h
      · exact .inl h
      · exact .inr h
    · rcases List.mem_cons.mp h with h | h
      · exact .inr (by rw [h]; exact List.mem_cons_self)
      · rcases mem_insK h with h | h
        · exact .inl h
        · exact .inr (List.mem_cons_of_mem _ h)
theorem insK_sorted {p : Int × α} : ∀ {l : List (Int × α)}, l.Pairwise (fun p q => p.1 ≤ q.1) → (insK p l).Pairwise (fun p q => p.1 ≤ q.1)
  | [], _ => by simp [insK]
  | r :: l, h => by
    have h2 := List.pairwise_cons.mp h
    unfold insK
    split
    · rename_i hp
      refine List.pairwise_cons.mpr ⟨fun q hq => ?_, h⟩
      rcases List.mem_cons.mp hq with e | e
      · rw [e]; exact hp
      · exact Int.le_trans hp (h2.1 q e)
    · rename_i hp
      refine List.pairwise_cons.mpr ⟨fun q hq => ?_, insK_sorted h2.2⟩
      rcases mem_insK hq with e | e
      · rw [e]; omega
      · exact h2.1 q e
theorem isK_sorted : ∀ (l : List (Int × α)), (isK l).Pairwise (fun p q => p.1 ≤ q.1)
  | [] => List.Pairwise.nil
  | p :: l => insK_sorted (isK_sorted l)
theorem insK_filter (p : Int × α) (c : Int) : ∀ l : List (Int × α), (insK p l).filter (fun q => q.1 == c) = if p.1 == c then p :: l.filter (fun q => q.1 == c) else l.filter (fun q => q.1 == c)
  | [] => by
    unfold insK
    by_cases h : p.1 == c <;> simp [List.filter_cons, h]
  | r :: l => by
    unfold insK
    split
    · by_cases h : p.1 == c <;> simp [List.filter_cons, h]
    · rename_i hp
      rw [List.filter_cons, insK_filter p c l, List.filter_cons]
      by_cases h : p.1 == c
      · have hr : (r.1 == c) = false := by
          have : p.1 = c := by simpa using h
          simp; omega
        simp [h, hr]
      · simp [h]
theorem isK_filter (c : Int) : ∀ l : List (Int × α), (isK l).filter (fun q => q.1 == c) = l.filter (fun q => q.1 == c)
  | [] => rfl
  | p :: l => by
    show (insK p (isK l)).filter _ = _
    rw [insK_filter, isK_filter c l, List.filter_cons]
theorem sorted_unique : ∀ {ps qs : List (Int × α)}, ps.Pairwise (fun p q => p.1 ≤ q.1) → qs.Pairwise (fun p q => p.1 ≤ q.1) → (∀ c, ps.filter (fun q => q.1 == c) = qs.filter (fun q => q.1 == c)) → ps = qs
  | [], [], _, _, _ => rfl
  | [], q :: qs, _, _, h => by
    have := h q.1
    simp [List.filter_cons] at this
  | p :: ps, [], _, _, h => by
    have := h p.1
    simp [List.filter_cons] at this
  | p :: ps, q :: qs, h1, h2, h => by
    have a1 := List.pairwise_cons.mp h1
    have a2 := List.pairwise_cons.mp h2
    have m1 : p ∈ q :: qs := by
      have : p ∈ (p :: ps).filter (fun x => x.1 == p.1) := by simp
      rw [h p.1] at this
      exact (List.mem_filter.mp this).1
    have m2 : q ∈ p :: ps := by
      have : q ∈ (q :: qs).filter (fun x => x.1 == q.1) := by simp
      rw [← h q.1] at this
      exact (List.mem_filter.mp this).1
    have l1 : q.1 ≤ p.1 := by
      rcases List.mem_cons.mp m1 with e | e
      · rw [e]; exact Int.le_refl _
      · exact a2.1 p e
    have l2 : p.1 ≤ q.1 := by
      rcases List.mem_cons.mp m2 with e | e
      · rw [e]; exact Int.le_refl _
      · exact a1.1 q e
    have e1 : p.1 = q.1 := Int.le_antisymm l2 l1
    have e2 : p = q := by
      have z := h p.1
      rw [List.filter_cons, List.filter_cons] at z
      simp [e1] at z
      exact z.1
    subst e2
    congr 1
    refine sorted_unique a1.2 a2.2 fun c => ?_
    have z := h c
    rw [List.filter_cons, List.filter_cons] at z
    by_cases hc : p.1 == c
    · simp [hc] at z; exact z
    · simp [hc] at z; exact z
theorem stable_is {ps qs : List (Int × α)} (h1 : ps.Pairwise (fun p q => p.1 ≤ q.1)) (h2 : ∀ c, ps.filter (fun q => q.1 == c) = qs.filter (fun q => q.1 == c)) : ps = isK qs :=
  sorted_unique h1 (isK_sorted qs) fun c => (h2 c).trans (isK_filter c qs).symm
variable {R : α → β → Prop}
theorem insK_rel {p : Int × α} {q : Int × β} (hp : p.1 = q.1 ∧ R p.2 q.2) : ∀ {l : List (Int × α)} {m : List (Int × β)}, Paired (fun p q => p.1 = q.1 ∧ R p.2 q.2) l m → Paired (fun p q => p.1 = q.1 ∧ R p.2 q.2) (insK p l) (insK q m)
  | _, _, .nil => .cons hp .nil
  | a :: l, b :: m, .cons h t => by
    unfold insK
    rw [hp.1, h.1]
    split
    · exact .cons hp (.cons h t)
    · exact .cons h (insK_rel hp t)
theorem isK_rel : ∀ {l : List (Int × α)} {m : List (Int × β)}, Paired (fun p q => p.1 = q.1 ∧ R p.2 q.2) l m → Paired (fun p q => p.1 = q.1 ∧ R p.2 q.2) (isK l) (isK m)
  | _, _, .nil => .nil
  | _ :: _, _ :: _, .cons h t => insK_rel h (isK_rel t)
theorem zip_rel : ∀ {ks : List Int} {xs : List α} {ys : List β}, Paired R xs ys → Paired (fun (p : Int × α) (q : Int × β) => p.1 = q.1 ∧ R p.2 q.2) (ks.zip xs) (ks.zip ys)
  | [], _, _, _ => by rw [List.zip_nil_left, List.zip_nil_left]; exact .nil
  | k :: ks, _, _, .nil => by rw [List.zip_nil_right, List.zip_nil_right]; exact .nil
  | k :: ks, _, _, .cons h t => by rw [List.zip_cons_cons, List.zip_cons_cons]; exact .cons ⟨rfl, h⟩ (zip_rel t)
theorem snd_rel : ∀ {l : List (Int × α)} {m : List (Int × β)}, Paired (fun p q => p.1 = q.1 ∧ R p.2 q.2) l m → Paired R (l.map Prod.snd) (m.map Prod.snd)
  | _, _, .nil => .nil
  | _ :: _, _ :: _, .cons h t => .cons h.2 (snd_rel t)
def sortK (ks : List Int) (xs : List α) : List α := (isK (ks.zip xs)).map Prod.snd
theorem sortK_rel {ks : List Int} {xs : List α} {ys : List β} (h : Paired R xs ys) : Paired R (sortK ks xs) (sortK ks ys) := snd_rel (isK_rel (zip_rel h))
theorem insK_length (p : Int × α) : ∀ l : List (Int × α), (insK p l).length = l.length + 1
  | [] => rfl
  | q :: l => by
    unfold insK
    split
    · rfl
    · rw [List.length_cons, insK_length p l, List.length_cons]
theorem isK_length : ∀ l : List (Int × α), (isK l).length = l.length
  | [] => rfl
  | p :: l => by show (insK p (isK l)).length = _; rw [insK_length, isK_length l]; rfl
end
theorem reps_paired {K : PySem.W.Frag} {H : Hp} : ∀ {ws : List W} {us : List V}, Reps K H ws us → Paired (fun w u => Rep K H w u) ws us
  | [], _, h => by rw [h.nil_inv]; exact .nil
  | _ :: _, _, h => by obtain ⟨u, r, e, a, b⟩ := h.cons_inv; subst e; exact .cons a (reps_paired b)
theorem paired_reps {K : PySem.W.Frag} {H : Hp} : ∀ {ws : List W} {us : List V}, Paired (fun w u => Rep K H w u) ws us → Reps K H ws us
  | _, _, .nil => Reps.nil
  | _, _, .cons a b => Reps.cons a (paired_reps b)
end ML


set_option Elab.async false
set_option linter.all false
set_option maxRecDepth 100000
set_option maxHeartbeats 2000000
namespace ML
open PySem PySem.Spec PyProof.Rows L2
section
variable {X : Cx} {pins : List (Addr × Obj)} {σ : L2.St} {H : Hp} {s : Shared}
theorem hok_there {P : Program} {w : World} {h : Heap} {a : Addr} {u : HO} (k : HOk P w H h) (e : H a = some u) : ∃ ob, h.get? a = some ob := by
  have q := k a u e
  cases u with
  | lst xs => obtain ⟨_, _, _, _, g⟩ := q; exact ⟨_, g⟩
  | tup xs => obtain ⟨_, _, _, ob, g, _⟩ := q; exact ⟨_, g⟩
  | dK kvs => obtain ⟨_, _, _, _, ob, _, _, g, _⟩ := q; exact ⟨_, g⟩
  | dT kvs => obtain ⟨_, _, _, _, ob, _, _, g, _⟩ := q; exact ⟨_, g⟩
  | set S n => obtain ⟨ob, _, _, _, g, _⟩ := q; exact ⟨_, g⟩
  | ins C dx fs => obtain ⟨_, _, _, g, _⟩ := q; exact ⟨_, g⟩
  | own y => obtain ⟨_, g⟩ := q; exact ⟨_, g⟩
  | xd fs => obtain ⟨_, ⟨_, _, _, g, _⟩, _⟩ := q; exact ⟨_, g⟩
  | rng lo hi => obtain ⟨_, _, _, g⟩ := q; exact ⟨_, g⟩
  | frz ob u => obtain ⟨g, _⟩ := q; exact ⟨_, g⟩
  | tbl ps => exact ⟨_, q⟩
  | met f y => exact ⟨_, q⟩
  | ext φ => obtain ⟨_, ⟨_, g⟩, _⟩ := q; exact ⟨_, g⟩
theorem none_of {P : Program} {w : World} {h : Heap} {a : Addr} (k : HOk P w H h) (hn : h.get? a = none) : H a = none := by
  cases e : H a with
  | none => rfl
  | some u =>
    obtain ⟨ob, g⟩ := hok_there k e
    rw [hn] at g; cases g
/-- something is tracked that was not; the names' store may be another one with the same names -/
theorem inv_take {a : Addr} {o : HO} {h' : Heap} {t' : Nat} {m : Str → Option Value} (I : Inv X pins σ H s) (hm : h'.Ns X.env.locals m)
    (hl : ∀ (i : Nat) (x : Str) (v : V), X.N[i]? = some x → σ[i]? = some (some v) → Vis X.env.scope x → ∃ u, RelV v u ∧ Look X.env s.heap m x u)
    (k : ∀ b u, b ≠ X.env.locals → s.heap.get? b = some u → h'.get? b = some u) (hA : H a = none) (h0 : X.s_0.heap.get? a = none) (aL : a ≠ X.env.locals) (aC : ∀ y c, X.env.cells.lookup y = some c → c ≠ a) (aP : ∀ p ∈ X.pn ++ pins, p.1 ≠ a)
    (new : ObjOk X.prog X.w (upd H a o) h' a o) : Inv X pins σ (upd H a o) { s with heap := h', toks := t' } := by
  have neL : ∀ b o, X.s_0.heap.get? b = some o → b ≠ X.env.locals := fun b o e => Nat.ne_of_lt (Nat.lt_of_lt_of_le (Heap.lt_size e) I.ok.above)
  have hH : ∀ b u, H b = some u → upd H a o b = some u := fun b u e => by rw [upd_ne (ne_of_none e hA)]; exact e
  have hnL : ∀ b u, H b = some u → b ≠ X.env.locals := fun b u e z => by subst z; rw [I.free] at e; cases e
  have cellK : ∀ {c : Addr} {v : Option Value}, c ≠ X.env.locals → s.heap.IsCell c v → h'.IsCell c v := fun {c v} n ⟨o, ho, hd⟩ => ⟨o, k c o n ho, hd⟩
  refine ⟨I.ok, I.os, I.bare, ⟨fun b u e n hb hx => k b u (neL b u e) (I.base.keep b u e n hb hx), fun b u e n hb hx => ?_, fun b u e n hx => ?_, fun b u e hx => ?_, fun b xs q => hH _ _ (I.base.tups b xs q), fun b u v q => hH _ _ (I.base.frzs b u v q), fun b ps q => ?_⟩,
    ⟨m, hm, fun i y v e1 e2 e3 => ?_⟩, fun y c e => ?_, by rw [upd_ne aL.symm]; exact I.free, fun y c e => ?_, fun p hp => ?_, fun b ob e => ?_, I.len⟩
  · obtain ⟨sl, e1⟩ := I.base.slot b u e n hb hx
    exact ⟨sl, k b _ (neL b u e) e1⟩
  · rw [upd_ne (fun z => by subst z; rw [h0] at e; cases e)]
    exact I.base.free b u e n hx
  · obtain ⟨o', e1⟩ := I.base.there b u e hx
    exact ⟨o', k b o' (neL b u e) e1⟩
  · obtain ⟨more, e1⟩ := I.base.tbls b ps q
    exact ⟨more, hH _ _ e1⟩
  · obtain ⟨u, r, q⟩ := hl i y v e1 e2 e3
    refine ⟨u, r, ?_⟩
    rcases q with q | ⟨kd, c, e, z⟩
    · exact .inl q
    · exact .inr ⟨kd, c, e, cellK (I.cne y c e) z⟩
  · obtain ⟨v, z⟩ := I.cell y c e
    exact ⟨v, cellK (I.cne y c e) z⟩
  · rw [upd_ne (aC y c e)]
    exact I.freeC y c e
  · obtain ⟨e, n, ne, nf, d⟩ := I.pin p hp
    exact ⟨k _ _ ne e, by rw [upd_ne (aP p hp)]; exact n, ne, nf, d⟩
  · by_cases hb : b = a
    · subst hb
      rw [upd_same] at e; cases e
      exact new
    · rw [upd_ne hb] at e
      refine (I.hok b ob e).stay (fun c w' hc q => k c w' ?_ q) (fun c q => hH _ _ q) fun c xs q => hH _ _ q
      rcases hc with z | z
      · rw [z]; exact hnL b ob e
      · exact hnL c _ z
/-- something new -/
theorem inv_land {a : Addr} {o : HO} {h' : Heap} {t' : Nat} {m : Str → Option Value} (I : Inv X pins σ H s) (hm : h'.Ns X.env.locals m)
    (hl : ∀ (i : Nat) (x : Str) (v : V), X.N[i]? = some x → σ[i]? = some (some v) → Vis X.env.scope x → ∃ u, RelV v u ∧ Look X.env s.heap m x u)
    (k : ∀ b u, b ≠ X.env.locals → s.heap.get? b = some u → h'.get? b = some u) (hn : s.heap.get? a = none) (hx : X.ex = []) (new : ObjOk X.prog X.w (upd H a o) h' a o) : Inv X pins σ (upd H a o) { s with heap := h', toks := t' } := by
  have ha : ∀ b u, s.heap.get? b = some u → b ≠ a := fun b u e z => by subst z; rw [hn] at e; cases e
  refine inv_take I hm hl k (none_of I.hok hn) ?_ (fun z => ?_) (fun y c e => ?_) (fun p hp => ha _ _ (I.pin p hp).1) new
  · cases e : X.s_0.heap.get? a with
    | none => rfl
    | some u =>
      obtain ⟨o', e1⟩ := I.base.there a u e (by rw [hx]; simp)
      exact absurd rfl (ha a o' e1)
  · obtain ⟨m0, ⟨oL, _, _, g, _⟩, _⟩ := I.loc
    exact ha _ _ g z.symm
  · obtain ⟨v, ⟨o', g, _⟩⟩ := I.cell y c e
    exact ha c o' g
end
end ML


set_option Elab.async false
set_option linter.all false
set_option maxRecDepth 100000
set_option maxHeartbeats 2000000
namespace ML
open PySem PySem.Spec PyProof.Rows L2
def othersOf (h : Heap) (L : Addr) : List (Addr × Obj) := (List.range h.objs.size).filterMap fun b => if b = L then none else (h.get? b).map fun o => (b, o)
theorem others_mem {h : Heap} {L b : Addr} {o : Obj} (e : h.get? b = some o) (n : b ≠ L) : (b, o) ∈ othersOf h L :=
  List.mem_filterMap.mpr ⟨b, List.mem_range.mpr (Heap.lt_size e), by rw [if_neg n, e]; rfl⟩
theorem others_get {h : Heap} {L : Addr} {p : Addr × Obj} (hp : p ∈ othersOf h L) : h.get? p.1 = some p.2 ∧ p.1 ≠ L := by
  obtain ⟨b, _, e⟩ := List.mem_filterMap.mp hp
  split at e
  · cases e
  · rename_i n
    cases e2 : h.get? b with
    | none => rw [e2] at e; cases e
    | some o => rw [e2] at e; cases e; exact ⟨e2, n⟩
/-- each of them is a tuple with an int ahead -/
def KeysV (K : PySem.W.Frag) (H : Hp) (us : List V) (ks : List Int) : Prop := Paired (fun u (k : Int) => ∃ q xs, u = V.ref q ∧ SqT K H q (.int k :: xs)) us ks
theorem paired_getR {α β : Type} {F : α → β → Prop} : ∀ {l : List α} {m : List β} {i : Nat} {v : β}, Paired F l m → m[i]? = some v → ∃ u, l[i]? = some u ∧ F u v
  | _, _, _, _, .nil, e => by simp at e
  | a :: l, b :: m, 0, v, .cons h t, e => by simp at e; subst e; exact ⟨a, rfl, h⟩
  | a :: l, b :: m, i + 1, v, .cons h t, e => by
    obtain ⟨u, h1, h2⟩ := paired_getR (i := i) t (by simpa using e)
    exact ⟨u, by simpa using h1, h2⟩
theorem paired_getL {α β : Type} {F : α → β → Prop} : ∀ {l : List α} {m : List β} {i : Nat} {v : α}, Paired F l m → l[i]? = some v → ∃ u, m[i]? = some u ∧ F v u
  | _, _, _, _, .nil, e => by simp at e
  | a :: l, b :: m, 0, v, .cons h t, e => by simp at e; subst e; exact ⟨b, rfl, h⟩
  | a :: l, b :: m, i + 1, v, .cons h t, e => by
    obtain ⟨u, h1, h2⟩ := paired_getL (i := i) t (by simpa using e)
    exact ⟨u, by simpa using h1, h2⟩
theorem nil_heap (a : Addr) : (Heap.mk #[] {}).get? a = none := by simp [Heap.get?]
section
variable {X : Cx} {pins : List (Addr × Obj)} {σ : L2.St} {H : Hp} {s : Shared}
theorem sort_run {l f c' : Addr} {us : List V} {ks : List Int} {Q : VK} {q : Str} {params : Arguments} {scope : Scope} {cl : List (Str × Addr)} {pm ctv : Value} {z : Str} {p1 p2 p3 : Pos} {j k : Nat} (I : Inv X pins σ H s) (hr : Room k X.A) (hx : X.ex = [])
    (hl : H l = some (.lst us)) (hks : KeysV X.K H us ks)
    (hf : s.heap.get? f = some (PySem.W.kla_obj "<lambda>" q params (.Subscript (.Name z p1) (.Constant (.int 0) j p2) p3) scope cl pm c' ctv)) (hfn : H f = none) (hfr : f ∉ frs X.stack) (hc : H c' = some (LamX.CodeO c' q))
    (hbind : ∀ v, bindArgs (PySem.W.kla_fn "<lambda>" q params (.Subscript (.Name z p1) (.Constant (.int 0) j p2) p3) scope cl pm (.ref c') ctv) ⟨[v], []⟩ = pure [(z, v)])
    (sk : scope.kind = .function) (sco : scope.isCoroutine = false) (sgen : scope.isGenerator = false) (sz : scope.names.lookup z = some .local) (scell : ∀ x ∈ scope.names, x.2 ≠ .cell) (hd : (z == ("__debug__" : Str)) = false)
    (hq : ∀ p, H p = none → Q (.ref p) (upd H p (.lst (sortK ks us)))) :
    wpAny (model X.prog X.w) X.A (call (.builtin "sorted") [.ref l] [(Str.ofString "key", .ref f)]) (EP X pins σ Q) X.xe s := by
  obtain ⟨zz, its, n, rv, hlen, el⟩ := I.lstM hl
  obtain ⟨m, hm, hlk⟩ := id I.loc
  have hfL : f ≠ X.env.locals := fun e => by
    obtain ⟨oL, es, ep, g, d, _⟩ := hm
    rw [← e, hf] at g
    cases g
    cases d
  have hnL : ∀ b u, H b = some u → b ≠ X.env.locals := fun b u e z => by subst z; rw [I.free] at e; cases e
  obtain ⟨⟨oc, vsc, t, hoc, hdc, hvc⟩, _, _⟩ := I.hok c' _ hc
  have F : Fr (Heap.mk #[] {}) X.env.locals s.heap m := ⟨hm, (fun b o e => by rw [nil_heap] at e; cases e), Nat.zero_le _⟩
  have N : News (Heap.mk #[] {}) X.env.locals s.heap (othersOf s.heap X.env.locals) := fun p hp => ⟨(others_get hp).1, (others_get hp).2, nil_heap _⟩
  have kl : ks.length = its.length := by rw [← hlen]; exact hks.length.symm
  refine ksk_sortedSt (kz := ks) (vs := its) (b := false) F N ⟨_, el, rfl, n, rfl⟩ kl (by rw [← hlen]; exact zz) (ksk_s1 _ _) (fun _ => ksk_l1 _ _) (fun x => ksk_t1 f x) (fun i v kk hv hkk h tk own F1 N1 => ?_) fun D h' tk out c F2 N2 hD ko => ?_
  · -- one key
    have keep : ∀ b o, b ≠ X.env.locals → s.heap.get? b = some o → h.get? b = some o := fun b o nb e => (N1 (b, o) (List.mem_append_left _ (others_mem e nb))).1
    obtain ⟨u, hu, ru⟩ := paired_getR rv hv
    obtain ⟨k2, hk2, q0, xs, eu, sq⟩ := paired_getL hks hu
    rw [hkk] at hk2
    cases hk2
    subst eu
    obtain rfl : v = Value.ref q0 := ru
    obtain ⟨tits, tr, tup, tz⟩ := I.tuple sq
    have htup : IsTup h q0 tits.toArray := by
      obtain ⟨o, g, c1, nn, d⟩ := tup
      refine ⟨o, keep q0 o (fun z => ?_) g, c1, nn, d⟩
      obtain ⟨oL, es, ep, g2, d2, _⟩ := hm
      rw [← z, g] at g2
      cases g2
      rw [d] at d2
      cases d2
    obtain ⟨tv, tits', etits, rk⟩ : ∃ tv tits', tits = tv :: tits' ∧ L2.RelV (.int kk) tv := by cases tr with | cons a b => exact ⟨_, _, rfl, a⟩
    obtain ⟨tt, rfl⟩ := rk
    refine wpAny_call ?_
    have of1 : h.get? f = some (PySem.W.kla_obj "<lambda>" q params (.Subscript (.Name z p1) (.Constant (.int 0) j p2) p3) scope cl pm c' ctv) := keep f _ hfL hf
    refine PySem.W.kla_callFunE (s := { s with heap := h, toks := tk }) hr.depth of1 rfl sco sgen rfl ⟨c', oc, vsc, t, rfl, keep c' _ (hnL c' _ hc) hoc, hdc, hvc⟩ ?_
    rw [hbind]
    refine wpAny_pure (wpAny_newFunctionEnv scell (fun y hy => ?_) (fun h₁ hns hsb => ⟨?_, ?_⟩) sk)
    · have e : y = (z, .ref q0) := by simpa using hy
      rw [e]; exact sz
    · refine (I.ok.mod.nolimit.keeps fun b o e => keep b o ?_ (I.bk b o e)).fresh _ hsb
      exact Nat.ne_of_lt (Nat.lt_of_lt_of_le (Heap.lt_size (I.ok.bs b o e).1) I.ok.above)
    show codeAny _ _ (.expr _ (PySem.W.envX q scope h.objs.size f (.ref c') cl)) _ _
    have kp : ∀ b o, h.get? b = some o → h₁.get? b = some o := fun b o e => hsb.extBut b o (Nat.ne_of_lt (Heap.lt_size e)) (Heap.get?_push_of_some _ e)
    refine PySem.W.kla_codeExpr ?_
    refine Subscript_ (wpAny_Name (wpAny_loadName_local (v := .ref q0) sk sz hns (by simp) ?_) hd)
    refine wpAny_Constant_int ?_
    refine subscriptTail_builtinR (T := "tuple") (x := .int kk tt) ?_ slot_tuple_getitem.lookup (getItem_tuple (items := tits.toArray) (j := 0) (x := .int kk tt) (htup.keeps kp) (by decide) (by decide) ?_ ?_ ⟨rfl, ?_⟩)
    · exact (htup.keeps kp).typeIs
    · rw [etits]; simp [seqIndex?]
    · rw [etits]; rfl
    · refine KskEnd.intro (news' := othersOf s.heap X.env.locals ++ own) ⟨?_, (fun b o e => by rw [nil_heap] at e; cases e), Nat.zero_le _⟩ (fun p hp => ⟨kp _ _ (N1 p hp).1, (N1 p hp).2⟩) fun p hp => hp
      obtain ⟨oL, es, ep, g, r⟩ := F1.ns
      exact ⟨oL, es, ep, kp _ _ g, r⟩
  · -- the list
    obtain ⟨ps, perm, eo, pw, fl⟩ := ko
    have e1 : ps = isK (ks.zip its) := stable_is (by simpa using pw) fl
    have vo : Vals (sortK ks us) out.toList := by
      rw [eo, e1]
      exact sortK_rel rv
    have keep : ∀ b o, b ≠ X.env.locals → s.heap.get? b = some o → h'.get? b = some o := fun b o nb e => (N2 (b, o) (List.mem_cons_of_mem _ (others_mem e nb))).1
    have hDo := N2 (D, seqObj "list" out c) List.mem_cons_self
    have hDn : s.heap.get? D = none := by
      cases e : s.heap.get? D with
      | none => rfl
      | some o => exact absurd (hD (D, o) (others_mem e hDo.2.1)) (Nat.lt_irrefl _)
    have hH : H D = none := none_of I.hok hDn
    refine ⟨.ref D, upd H D (.lst (sortK ks us)), inv_land I F2.ns hlk keep hDn hx ⟨?_, out.toList, c, vo, ?_⟩, rfl, hq D hH⟩
    · unfold sortK
      rw [List.length_map, isK_length, List.length_zip]
      exact Nat.le_trans (Nat.min_le_right _ _) zz
    · rw [Array.toArray_toList]; exact hDo.1
end
/-! ### sorted(e, key=lambda x: x[0]) -/
def keysW : List W → Option (List Int)
  | [] => some []
  | .tup (.int i :: _) :: r => (keysW r).map (i :: ·)
  | _ => none
def mSortK (m : ME) : ME := fun RX e M R => m RX e M fun x M1 => match lstAt M1 x with
  | some ws => match keysW ws with
    | some ks => ∀ p, M1 p = none → R (.ref p) (updM M1 p (.lst (sortK ks ws)))
    | none => False
  | none => False
theorem keys_ok {K : PySem.W.Frag} {H : Hp} : ∀ {ws : List W} {us : List V} {ks : List Int}, Reps K H ws us → keysW ws = some ks → KeysV K H us ks
  | [], us, ks, h, e => by rw [h.nil_inv]; simp [keysW] at e; subst e; exact .nil
  | w :: ws, us, ks, h, e => by
    obtain ⟨u, r, rfl, a, b⟩ := h.cons_inv
    unfold keysW at e
    split at e
    · rename_i q; cases q
    · rename_i i t r' q
      cases q
      obtain ⟨ks', e', rfl⟩ := Option.map_eq_some_iff.mp e
      simp only [Rep] at a
      obtain ⟨p, xs, eu, sq, rr⟩ := a
      obtain ⟨y, z, ey, ay, bz⟩ := rr.cons_inv
      simp only [Rep] at ay
      subst ey; subst ay
      exact .cons ⟨p, z, eu, sq⟩ (keys_ok b e')
    · cases e
/-- the map goes along where tables alone are changed -/
theorem Rel.extN {K : PySem.W.Frag} {T : List (Addr × Str)} {M : Mh} {H H' : Hp} (r : Rel K T M H) (x : LamX.ExtN H H') (t : LamX.Tabs T H') : Rel K T M H' ∧ Ext M H M H' := by
  have g : Grow H H' := ⟨fun b xs e => x b _ e (fun _ z => nomatch z), fun b o u e => x b _ e (fun _ z => nomatch z)⟩
  have ko : ∀ a o, M a = some o → RepO K M H' a o := fun a o e => by
    have q := r.ob a o e
    cases o with
    | lst ws => obtain ⟨us, e2, p⟩ := q; exact ⟨us, x _ _ e2 (fun _ z => nomatch z), p.grow g⟩
    | dct ws => obtain ⟨us, e2, p⟩ := q; exact ⟨us, x _ _ e2 (fun _ z => nomatch z), p.grow g⟩
    | ins C fs => obtain ⟨dx, us, e2, p⟩ := q; exact ⟨dx, us, x _ _ e2 (fun _ z => nomatch z), p.grow g⟩
    | exc c => exact x _ _ q fun _ z => by unfold ExT at z; cases z
    | drw m =>
      obtain ⟨⟨g1, c1, gs, cs, rest, turn, ⟨d1, d2, d3, d4⟩, n1, n2⟩, u⟩ := q
      exact ⟨⟨g1, c1, gs, cs, rest, turn, ⟨x _ _ d1 (fun _ z => nomatch z), x _ _ d2 (fun _ z => nomatch z), x _ _ d3 (fun _ z => nomatch z), d4⟩, n1, n2⟩, u⟩
  refine ⟨⟨ko, t⟩, g, fun a u m e ow z => ow ?_, fun a u m e ow => x a u e fun ps z => by subst z; exact m⟩
  rcases z with z | ⟨s, g1, c1, gs, cs, rest, turn, e1, d, z⟩
  · exact .inl z
  · obtain ⟨m, e1⟩ := e1
    obtain ⟨⟨g', c', gs', cs', rest', turn', d', _⟩, _⟩ := r.ob s _ e1
    obtain ⟨q1, q2⟩ := d'.same d (by rw [d'.1]; exact (x _ _ d'.1 (fun _ z => nomatch z)).symm)
    subst q1; subst q2
    exact .inr ⟨s, _, _, _, _, _, _, ⟨m, e1⟩, d', z⟩
section
variable {X : Cx} {T : List (Addr × Str)} {Wx : WX} {pos : Pos}
theorem me_sortK {c P : Addr} {k j : Nat} {m : ME} {e : Expr} {z : Str} {params : Arguments} {scope : Scope} {p p1 p2 p3 lpos kpos : Pos} (hr : Room k X.A) (hm : X.mg "sorted" = none) (ha : PE X e (Lf X.K T Wx m)) (TB : LamX.TabB X.base X.mg c P) (hcode : X.env.code = .ref c)
    (hmT : (P, X.env.qual ++ "<lambda>") ∈ T) (hu : ∀ p ∈ T, p.1 = P → p.2 = X.env.qual ++ "<lambda>") (hdef : defaultsOf params X.env = ([], []))
    (hbind : ∀ (q : Str) (cl : List (Str × Addr)) (pm cv ctv v : Value), bindArgs (PySem.W.kla_fn "<lambda>" q params (.Subscript (.Name z p1) (.Constant (.int 0) j p2) p3) scope cl pm cv ctv) ⟨[v], []⟩ = pure [(z, v)])
    (sk : scope.kind = .function := by rfl) (sco : scope.isCoroutine = false := by rfl) (sgen : scope.isGenerator = false := by rfl) (sz : scope.names.lookup z = some .local := by rfl) (scell : ∀ x ∈ scope.names, x.2 ≠ .cell := by decide) (sfree : ∀ x ∈ scope.names, x.2 ≠ .free := by decide) (hd : (z == ("__debug__" : Str)) = false := by decide)
    (hg : Gl X "sorted" := by rfl) (hv : bootBuiltins "sorted" = some (.builtin "sorted") := by decide +kernel)
    (hx : X.ex = [] := by rfl) (hst : starEach [e] X.env = (false, eval e X.env) :: starEach [] X.env := by rfl) (he : backTo pos (starEach [e] X.env) = (false, eval e X.env) :: backTo pos (starEach [] X.env) := by rfl) (hpl : (backTo pos (starEach [e] X.env)).any (·.1) = false := by rfl) :
    PE X (.Call (.Name "sorted" p) [e] [⟨some "key", .Lambda params (.Subscript (.Name z p1) (.Constant (.int 0) j p2) p3) scope lpos, kpos⟩] pos) (Lf X.K T Wx (mSortK m)) := by
  refine ⟨fun pins s σ H Q I h => ?_⟩
  obtain ⟨RX, e0, M, R, b, h, k0⟩ := h
  have h1 : Lf X.K T Wx m σ H fun v H1 => LamX.Tabs T H1 ∧ ∃ (a : Addr) (us : List V) (ks : List Int), v = .ref a ∧ H1 a = some (.lst us) ∧ KeysV X.K H1 us ks ∧
      ∀ H2, LamX.ExtN H1 H2 → LamX.Tabs T H2 → ∀ p, H2 p = none → Q (.ref p) (upd H2 p (.lst (sortK ks us))) := by
    refine one_ok b h fun x M1 v H1 x1 r1 p1 h1 => ⟨r1.tab, ?_⟩
    unfold lstAt at h1
    split at h1
    · rename_i ws ea
      split at ea
      · rename_i a
        split at ea
        · rename_i ws' em
          cases ea
          split at h1
          · rename_i ks ek
            obtain ⟨us, e2, q⟩ := r1.ob a _ em
            simp only [Rep] at p1
            refine ⟨a, us, ks, p1, e2, keys_ok q ek, fun H2 x2 t2 p hp => ?_⟩
            obtain ⟨r2, y2⟩ := r1.extN x2 t2
            exact k0 _ _ _ _ ((x1.trans y2).trans (Ext.newL r2 hp)) (r2.newL hp (paired_reps (sortK_rel (reps_paired (q.grow y2.grow))))) (by simp only [Rep]) (h1 p (r2.free hp))
          · exact h1.elim
        · cases ea
      · cases ea
    · exact h1.elim
  refine wpAny_Call_Name_kw (ld_blt I hg hm hv ?_ (by decide) (by decide))
  refine PyProof.Rows.callWith_kw (thn ((pa_cons ha pa_nil hst).run pos pins s σ H _ I (show tCons (Lf X.K T Wx m) tNil σ H fun vs H1 => LamX.Tabs T H1 ∧ ∃ (a : Addr) (us : List V) (ks : List Int), vs = [.ref a] ∧ H1 a = some (.lst us) ∧ KeysV X.K H1 us ks ∧
      ∀ H2, LamX.ExtN H1 H2 → LamX.Tabs T H2 → ∀ p, H2 p = none → Q (.ref p) (upd H2 p (.lst (sortK ks us))) from ?_)) fun us0 s1 ⟨vs, H1, I1, rvs, hT, a, us, ks, ev, ea, hk, hq⟩ => ?_) he hpl (by rfl) (by rfl)
  · obtain ⟨RX', e', M', R', b', h', k'⟩ := h1
    refine ⟨RX', e', M', R', b', h', fun w M2 v H2 x2 r2 p2 q2 => ?_⟩
    obtain ⟨t2, a, us, ks, e1, e2, e3, e4⟩ := k' w M2 v H2 x2 r2 p2 q2
    exact ⟨t2, a, us, ks, by rw [e1], e2, e3, e4⟩
  · subst ev
    obtain ⟨u, rfl, ru⟩ : ∃ u, us0 = [u] ∧ L2.RelV (.ref a) u := by cases rvs with | cons x y => cases y; exact ⟨_, rfl, x⟩
    obtain rfl : u = Value.ref a := ru
    refine wpAny_evalAll_cons (wpAny_bind (LamX.lam_make2 I1 TB hcode hmT hu hT hdef (fun y hy e => absurd e (sfree y hy)) fun f c' pm' ctv H2 s2 I2 eN T2 hf hfn hfr hco => wpAny_bind (wpAny_standAt (wpAny_pure (wpAny_evalAll_nil ?_)))))
    have e2 : H2 a = some (.lst us) := eN _ _ ea (fun _ z => nomatch z)
    have hk2 : KeysV X.K H2 us ks := L2.Paired.mapP hk fun u kk ⟨q, xs, e, sq⟩ => ⟨q, xs, e, SqT.grow ⟨fun b xs e => eN _ _ e (fun _ z => nomatch z), fun b o u e => eN _ _ e (fun _ z => nomatch z)⟩ sq⟩
    exact sort_run I2 hr hx e2 hk2 hf hfn hfr hco (fun v => hbind _ _ _ _ _ v) sk sco sgen sz scell hd fun p hp => hq H2 eN T2 p hp
end
end ML


set_option Elab.async false
set_option linter.all false
set_option maxRecDepth 100000
set_option maxHeartbeats 2000000
namespace ML
open PySem PySem.Spec PyProof.Rows L2
section
variable {X : Cx} {pins : List (Addr × Obj)} {σ : L2.St} {H : Hp} {s : Shared}
theorem ext_ok {P : Program} {w : World} {h : Heap} {a : Addr} {oe : Obj} {cls : Value} (e : h.get? a = some oe) (z : Zc cls none oe) (d : ∃ vs, oe.data = .fields vs) : ObjOk P w (upd H a (ExT cls a)) h a (ExT cls a) := by
  obtain ⟨vs, d⟩ := d
  refine ⟨⟨oe, vs, e, z, d⟩, ⟨oe, e⟩, fun h1 h2 ⟨o1, v1, e1, z1, d1⟩ k => ⟨o1, v1, k o1 e1, z1, d1⟩⟩
/-- the held exception is tracked -/
theorem inv_exc {a : Addr} {oe : Obj} {cls : Value} (I : Inv X ((a, oe) :: pins) σ H s) (h0 : X.s_0.heap.get? a = none) (aP : ∀ p ∈ X.pn ++ pins, p.1 ≠ a) (z : Zc cls none oe) (d : ∃ vs, oe.data = .fields vs) : Inv X pins σ (upd H a (ExT cls a)) s := by
  have I0 : Inv X pins σ H s := I.pins_of fun p hp => I.pin p (List.mem_append_right _ (List.mem_cons_of_mem _ hp))
  obtain ⟨e, n, ne, nf, nc⟩ := I.pin (a, oe) (List.mem_append_right _ List.mem_cons_self)
  obtain ⟨m, hm, hl⟩ := id I0.loc
  have J := inv_take (t' := s.toks) I0 hm hl (fun b u _ q => q) n h0 ne (fun y c ec => ?_) aP (ext_ok (cls := cls) e z d)
  · exact J
  · intro zc
    obtain ⟨v, ⟨o', g, dd⟩⟩ := I0.cell y c ec
    rw [zc, e] at g
    cases g
    exact nc v dd
/-- what the clause wishes of the body's exception: slot i is the clause's name, slot j the other -/
def wKeep (K : PySem.W.Frag) (c : Value) (i j n : Nat) (D : Ends) : WX := fun cls d σ H => PySem.W.exmOne K cls c = some true ∧ d = none ∧ (σ.length = n → ∀ a, H a = none → D.nx (((σ.set i (some (.ref a))).set j (some (.ref a))).set i none) (upd H a (ExT cls a)))
/-- try: body / except x as n: y = n -/
theorem ps_keep {x n : Str} {c : Value} {i j : Nat} {body : List Stmt} {b₀ : Stmt} {np pos pos' : Pos} {tb : WX → TS} (hs : X.stack = X.env :: X.outer) (hf : X.env.frame = some X.env.locals) (hN : X.N.Nodup) (hi : X.N[i]? = some n) (hln : X.env.kindOf n = some .local) (hc : Names X x c) (hex : X.ex = [])
    (hb : ∀ (W : WX) (pn : List (Addr × Obj)) (xe : Value → Shared → Prop), Takes (X.tr pn xe) W → PassesOwn (model X.prog X.w) X.A X.env xe → PSs (X.tr pn xe) body (tb W))
    (hsu : ∀ (a : Addr) (oe : Obj) (pn : List (Addr × Obj)), PSs (X.suite a ((a, oe) :: pn)) [b₀] (fun D σ H => ∃ v, σ[i]? = some (some v) ∧ D.nx (σ.set j (some v)) H)) :
    PS X (.Try body [.ExceptHandler (some (.Name x np)) (some n) [b₀] pos'] [] [] pos) (fun D σ H => tb (wKeep X.K c i j X.N.length D) D σ H) := by
  refine ⟨fun pins s σ H D I h => ?_⟩
  have okX := I.ok
  have frX : X.A.frames = some (X.env :: X.outer) := by rw [okX.frames, hs]
  refine wpAny_Try_except (wpAny_mono ((hb (wKeep X.K c i j X.N.length D) (X.pn ++ pins) (fun e s₁ => wpAny (model X.prog X.w) X.A (noteFrame e X.env) (fun _ s₂ => wpAny (model X.prog X.w) X.A (setFlight e none) (fun _ s₃ => wpAny (model X.prog X.w) X.A (handleBy e X.env [.ExceptHandler (some (.Name x np)) (some n) [b₀] pos']) (SP X pins D) X.xe s₃) X.xe s₂) X.xe s₁) (fun u s' air => ?_)
    PassesOwn.looking).run [] s σ H D (I.toTry _) h) (fun fl s1 end_ => ?_) (fun _ _ q => q))
  · obtain ⟨a, G, sI, pins', σ', H', cls, d, rfl, J0, nG, up0, sky, na, os, ag, hm, rfl, fin⟩ := air
    have J : Inv X pins σ' H' sI := J0.ofTry okX
    have sky1 : Sky G (X.env :: X.outer) a (Zc cls none) X.env.locals s'.heap := by rw [← hs]; exact sky
    show wpAny (model X.prog X.w) X.A (noteFrame (.ref a) X.env) _ _ _
    refine Sky.land Zc.steady frX hf sky1 fun hA flA upA => ?_
    have nA : a ∉ frs (X.env :: X.outer) := fun hm => by
      obtain ⟨oe, vs, g, _, dd⟩ := flA.there
      obtain ⟨_, o', g', nf⟩ := flA.2.2.1.mem hm
      rw [g] at g'; cases g'
      exact nf _ dd
    have aL : a ≠ X.env.locals := fun z => nA (List.mem_filterMap.mpr ⟨X.env, List.mem_cons_self, by rw [hf, z]⟩)
    have aF : a ∉ X.fs := fun hm => by
      obtain ⟨e, he, q⟩ := List.mem_filterMap.mp hm
      exact nA (List.mem_filterMap.mpr ⟨e, List.mem_cons_of_mem _ he, q⟩)
    have aI : sI.heap.get? a = none := by
      cases e : sI.heap.get? a with
      | none => rfl
      | some o =>
        have := nG a o e (by rw [hs]; exact nA)
        rw [flA.2.1] at this
        cases this
    have a0 : X.s_0.heap.get? a = none := by
      cases e : X.s_0.heap.get? a with
      | none => rfl
      | some o =>
        obtain ⟨o', e1⟩ := J.base.there a o e (by rw [hex]; simp)
        rw [aI] at e1; cases e1
    have aP : ∀ p ∈ X.pn ++ pins, p.1 ≠ a := fun p hp z => by
      have q := (J.pin p hp).1
      rw [z, aI] at q; cases q
    obtain ⟨oA, vA, gA, zA, dA⟩ := flA.there
    have JA : Inv X pins σ' H' { s' with heap := hA } := J.landed nG flA.1 (up0.trans upA) os ag
    have SA := JA.suite gA dA na aL aF
    refine wpAny_handleBy_cons (codeAny_handlers_test ?_) (by intro q; cases q)
    have LT : PySem.W.Looks (model X.prog X.w) hA (typeOf (.ref a)) cls := fun A Q E s k q => wpAny_typeOf_ref (k _ _ gA) (by rw [zA.1]; exact q)
    have LM := PySem.W.exm_one (M := model X.prog X.w) (JA.kIn) LT hm
    have look : ∀ {Q : Value → Shared → Prop} {E : Value → Shared → Prop}, Q c { s' with heap := hA } → wpAny (model X.prog X.w) (X.A.mark (some (.ref a))) (eval (.Name x np) X.env) Q E { s' with heap := hA } := fun {Q E} q => by
      rcases hc with ⟨g1, g2, g3 | ⟨g3, g4, g5⟩⟩
      · exact ld_glob (X := X.suite a ((a, oA) :: (X.pn ++ pins))) SA g1 g3 q g2
      · exact ld_blt (X := X.suite a ((a, oA) :: (X.pn ++ pins))) SA g1 g3 g4 q g5 g2
    refine look (LM.here (codeAny_handlers_suite_as ?_))
    refine HandSPX.lands_againZ flA fun hB flB upB => ?_
    obtain ⟨oB, vB, gB, zB, dB⟩ := flB.there
    have JB : Inv X pins σ' H' { s' with heap := hB } := J.landed nG flB.1 ((up0.trans upA).trans upB) os ag
    have SB := JB.suite gB dB na aL aF
    refine store_ok (X := X.suite a ((a, oB) :: (X.pn ++ pins))) (v := .ref a) SB hN hi (.inl hln) rfl (fun sC SC => ?_) (.inr hln)
    have il : i < σ'.length := by rw [J.len]; exact (List.getElem?_eq_some_iff.mp hi).1
    refine wpAny_mono ((hsu a oB (X.pn ++ pins)).run [] sC _ H' { nx := fun σ2 H2 => σ2 = (σ'.set i (some (.ref a))).set j (some (.ref a)) ∧ H2 = H', rt := fun _ _ => False } SC ⟨.ref a, by rw [List.getElem?_set_self il], rfl, rfl⟩) (fun f sD hsp => ?_) (fun _ _ z => False.elim z)
    cases f with
    | next =>
      obtain ⟨σD, HD, SD, rfl, rfl⟩ := hsp
      have JD : Inv X ((a, oB) :: pins) ((σ'.set i (some (.ref a))).set j (some (.ref a))) HD sD := by
        refine (SD.unsuite okX).pins_of fun p hp => ?_
        rcases List.mem_cons.mp hp with e | e
        · rw [e]; exact SD.pin (a, oB) (List.mem_append.mpr (.inl List.mem_cons_self))
        · exact (SD.unsuite okX).pin p (List.mem_append_right _ e)
      exact gone_ok JD hN hi hln fun sE JE => ⟨_, _, inv_exc JE a0 aP zB ⟨_, dB⟩, fin J.len a na⟩
    | brk => obtain ⟨_, _, _, q⟩ := hsp; exact q.elim
    | cont => obtain ⟨_, _, _, q⟩ := hsp; exact q.elim
    | ret u => obtain ⟨_, _, _, _, _, q⟩ := hsp; exact q.elim
  · cases fl with
    | next =>
      obtain ⟨σ', H', J', q⟩ := end_
      exact wpAny_execs_nil ⟨σ', H', J'.ofTry okX, q⟩
    | brk =>
      obtain ⟨σ', H', J', q⟩ := end_
      exact ⟨σ', H', J'.ofTry okX, q⟩
    | cont =>
      obtain ⟨σ', H', J', q⟩ := end_
      exact ⟨σ', H', J'.ofTry okX, q⟩
    | ret u =>
      obtain ⟨v, σ', H', J', r, q⟩ := end_
      exact ⟨v, σ', H', J'.ofTry okX, r, q⟩
end
end ML


set_option Elab.async false
set_option linter.all false
set_option maxRecDepth 100000
set_option maxHeartbeats 2000000
namespace ML
open PySem PySem.Spec PyProof.Rows L2
/-- found = None; try: a() / except e as n: found = n; return found -/
def TTc (K : PySem.W.Frag) (CS : Addr) : (XK → Hp → VK → Prop) → Hp → VK → Prop := fun tl H Q =>
  tl (fun cls d H' => PySem.W.exmOne K cls (.ref CS) = some true ∧ d = none ∧ ∀ a, H' a = none → Q (.ref a) (upd H' a (ExT cls a))) H (fun _ H' => Q .non H')
theorem caught_gives {X : Cx} {Ng : List Str} {x a y n e q : Str} {sg : Scope} {g CS : Addr} {cdg : Value} {i j k0 : Nat} {p1 p2 p3 p4 p5 p6 p7 p8 p9 p10 p11 p12 p13 p14 : Pos} (hN : Ng.Nodup) (hj : Ng[j]? = some y) (hi : Ng[i]? = some n) (hij : i ≠ j) (hj0 : j ≠ 0)
    (hy : sg.names.lookup y = some .local) (hn : sg.names.lookup n = some .local) (hge : sg.names.lookup e = some .globalImplicit) (hme : X.mg e = some (.ref CS)) (hde : (e == ("__debug__" : Str)) = false) (h0 : ∀ f : Addr, (L2.start Ng [V.ref f])[0]? = some (some (V.ref f)))
    (hdy : (y == ("__debug__" : Str)) = false) (hcy : (y == ("__classdict__" : Str)) = false) (hdn : (n == ("__debug__" : Str)) = false) (hcn : (n == ("__classdict__" : Str)) = false) :
    LamX.GivesTo X Ng x sg g cdg [.Assign [.Name y p1] (.Constant .none k0 p2) p3, .Try [.Expr (.Call (.Name a p4) [] [] p5) p6] [.ExceptHandler (some (.Name e p7)) (some n) [.Assign [.Name y p8] (.Name n p9) p10] p11] [] [] p12, .Return (some (.Name y p13)) p14] a q (TTc X.K CS) := by
  intro f c' s H Q tl act hc h
  have hgl : Gl (cxOf C8.CX0 X.prog X.w X.K X.mg X.base Ng x sg g cdg X.A X.stack s H C8.E0).nox e := hge
  have vy : Vis sg y := .inl hy
  have vn : Vis sg n := .inl hn
  have ly : (L2.start Ng [V.ref f]).length = Ng.length := by
    unfold L2.start
    have : 0 < Ng.length := by
      cases e : Ng with
      | nil => rw [e] at hj; simp at hj
      | cons _ _ => simp
    simp; omega
  have jl : j < Ng.length := (List.getElem?_eq_some_iff.mp hj).1
  refine ⟨_, pss_cons (ps_asg (X := (cxOf C8.CX0 X.prog X.w X.K X.mg X.base Ng x sg g cdg X.A X.stack s H C8.E0).nox) pe_non (pg_name hN hj (.inl hy) (.inr hy)))
    (pss_cons (ps_keep (X := (cxOf C8.CX0 X.prog X.w X.K X.mg X.base Ng x sg g cdg X.A X.stack s H C8.E0).nox) (i := i) (j := j) (c := .ref CS) (tb := fun W D σ H => ∃ Ech : XK, (∀ cls d σ' H', Ech cls d H' → W cls d σ' H') ∧ σ[0]? = some (some (.ref f)) ∧ H c' = some (LamX.CodeO c' q) ∧ tl Ech H fun _ H' => D.nx σ H') rfl rfl hN hi hn ⟨hgl, hde, .inl hme⟩ rfl (fun W pn xe tk _ => ?_) (fun b oe pn => ?_))
      (pss_one (ps_ret (pe_var (i := j) hj vy hdy hcy)))), ?_⟩
  · refine ⟨fun pins s' σ H' D I h' => ?_⟩
    obtain ⟨Ech, hW, h1, h2, h3⟩ := h'
    have hp := act W pn xe Ech p4 p5 tk hW
    exact (pss_one (ps_expr (pos := p6) hp)).run pins s' σ H' D I ⟨h1, h2, h3⟩
  · refine PSs.wk (pss_one (ps_asg (pe_var (i := i) hi vn hdn hcn) (pg_name hN hj (.inl hy) (.inr hy)))) fun D σ H h => ?_
    exact h
  · show ∃ Ech : XK, _
    refine ⟨fun cls d H' => PySem.W.exmOne X.K cls (.ref CS) = some true ∧ d = none ∧ ∀ a, H' a = none → Q (.ref a) (upd H' a (ExT cls a)), fun cls d σ' H' ⟨e1, e2, e3⟩ => ⟨e1, e2, fun hl b hb => ?_⟩, ?_, hc, ?_⟩
    · have hl : σ'.length = Ng.length := hl
      refine ⟨.ref b, ?_, e3 b hb⟩
      rw [List.getElem?_set_ne hij, List.getElem?_set_self (by rw [List.length_set, hl]; exact jl)]
    · rw [List.getElem?_set_ne hj0]; exact h0 f
    · have z : ((L2.start Ng [V.ref f]).set j (some V.non))[j]? = some (some V.non) := List.getElem?_set_self (by rw [ly]; exact jl)
      have hh : TTc X.K CS tl H Q := h
      unfold TTc at hh
      have e : (fun (_ : V) (H' : Hp) => tRet (tVar j) { nx := fun _ H' => Q .non H', rt := Q } ((L2.start Ng [V.ref f]).set j (some V.non)) H') = fun _ H' => Q .non H' := by
        funext v H'
        unfold tRet tVar
        simp only [z, Option.some.injEq, exists_eq_left', eq_iff_iff]
      show tl _ H (fun _ H' => tRet (tVar j) { nx := fun _ H' => Q .non H', rt := Q } ((L2.start Ng [V.ref f]).set j (some V.non)) H')
      rw [e]
      exact hh
end ML


set_option Elab.async false
set_option linter.all false
set_option maxRecDepth 100000
set_option maxHeartbeats 2000000
namespace ML
open PySem PySem.Spec PyProof.Rows L2
/-! ### caught(lambda: body) -/
def mCaught (ok : Addr → Prop) (m : ME) : ME := fun _ e M R => m (fun C M' => ok C ∧ ∀ a, M' a = none → R (.ref a) (updM M' a (.exc (.ref C)))) e M fun _ M' => R .non M'
section
variable {X : Cx} {T : List (Addr × Str)} {Wx : WX} {pos : Pos}
theorem me_caught {ok : Addr → Prop} {x a y n e : Str} {g c P CS : Addr} {k i j k0 : Nat} {pg : Arguments} {sg : Scope} {dV kV doc pm cdv ct oc : Value} {an od : Option Addr} {osl : Array (Option Value)} {Ng : List Str} {params : Arguments} {body : Expr} {scope : Scope} {m : ME} {p lpos p1 p2 p3 p4 p5 p6 p7 p8 p9 p10 p11 p12 p13 p14 : Pos}
    (hm : X.mg x = some (.ref g)) (hk : PySem.W.keepIn X.K (.ref g) = true)
    (lk : X.K.lookup g = some ⟨oc, od, .func (PySem.W.fnOf x x pg [.Assign [.Name y p1] (.Constant .none k0 p2) p3, .Try [.Expr (.Call (.Name a p4) [] [] p5) p6] [.ExceptHandler (some (.Name e p7)) (some n) [.Assign [.Name y p8] (.Name n p9) p10] p11] [] [] p12, .Return (some (.Name y p13)) p14] sg dV kV doc pm an cdv ct), osl⟩)
    (hcg : PySem.W.codeIn X.K cdv x = true) (hb : L2.Binds X.K (PySem.W.fnOf x x pg [.Assign [.Name y p1] (.Constant .none k0 p2) p3, .Try [.Expr (.Call (.Name a p4) [] [] p5) p6] [.ExceptHandler (some (.Name e p7)) (some n) [.Assign [.Name y p8] (.Name n p9) p10] p11] [] [] p12, .Return (some (.Name y p13)) p14] sg dV kV doc pm an cdv ct) [a] [])
    (Sg : FnScope Ng [a] sg) (hNg : Ng[0]? = some a) (hva : Vis sg a) (hj : Ng[j]? = some y) (hi : Ng[i]? = some n) (hij : i ≠ j) (hj0 : j ≠ 0) (hy : sg.names.lookup y = some .local) (hn : sg.names.lookup n = some .local) (hge : sg.names.lookup e = some .globalImplicit) (hme : X.mg e = some (.ref CS))
    (hde : (e == ("__debug__" : Str)) = false) (h0 : ∀ f : Addr, (L2.start Ng [V.ref f])[0]? = some (some (V.ref f))) (hdy : (y == ("__debug__" : Str)) = false) (hcy : (y == ("__classdict__" : Str)) = false) (hdn : (n == ("__debug__" : Str)) = false) (hcn : (n == ("__classdict__" : Str)) = false)
    (hok : ∀ C, ok C → PySem.W.exmOne X.K (.ref C) (.ref CS) = some true)
    (TB : LamX.TabB X.base X.mg c P) (hcode : X.env.code = .ref c) (hmT : (P, X.env.qual ++ "<lambda>") ∈ T) (hu : ∀ p ∈ T, p.1 = P → p.2 = X.env.qual ++ "<lambda>") (hr : Room (k + 2) X.A) (L : LamX.LamS X.env.scope scope) (hdef : defaultsOf params X.env = ([], []))
    (hbind : ∀ (q : Str) (cl : List (Str × Addr)) (pm cv ctv : Value), bindArgs (PySem.W.kla_fn "<lambda>" q params body scope cl pm cv ctv) ⟨[], []⟩ = pure [])
    (hbody : ∀ (A : Around) (outer : List Env) (s : Shared) (H : Hp) (E : XK) (f c' : Addr), Room k (A.deeper (LamX.lamEnv X scope s.heap.objs.size f c')) → PE (LamX.lamCx X A outer s H E scope f c') body (Lf X.K T (fnW E) m))
    (hg : Gl X x := by rfl) (hdb : (x == ("__debug__" : Str)) = false := by decide) (hd : (a == ("__debug__" : Str)) = false := by decide) (hcd : (a == ("__classdict__" : Str)) = false := by decide) :
    PE X (.Call (.Name x p) [.Lambda params body scope lpos] [] pos) (Lf X.K T Wx (mCaught ok m)) := by
  refine PE.wk (LamX.pe_lamcall (T := T) (TT := TTc X.K CS) (t := fun E => Lf X.K T (fnW E) m) hg hm hk lk hcg hb Sg hNg hva (caught_gives Sg.nd hj hi hij hj0 hy hn hge hme hde h0 hdy hcy hdn hcn) TB hcode hmT hu hr L hdef hbind hbody hdb hd hcd) fun σ H Q h => ?_
  obtain ⟨RX, e0, M, R, b, h, k1⟩ := h
  refine ⟨b.rel.tab, fun H1 xN t1 => ?_⟩
  obtain ⟨r1, x1⟩ := b.rel.extN xN t1
  refine ⟨_, e0, M, _, ⟨b.env.grow x1.grow, r1, fun C M' σ' H' x2 r2 q => ?_⟩, h, fun w M' v H' x2 r2 p2 q => k1 .non M' .non H' (x1.trans x2) r2 (by simp only [Rep]) q⟩
  refine ⟨hok C q.1, rfl, fun b2 hb2 => k1 (.ref b2) _ (.ref b2) _ ((x1.trans x2).trans (Ext.newO (o := .exc (.ref C)) r2 hb2 fun _ z => nomatch z)) (r2.newO (o := .exc (.ref C)) hb2 (fun _ z => nomatch z) ?_) (by simp only [Rep]) (q.2 b2 (r2.free hb2))⟩
  exact upd_same
/-! ### isinstance(e, C), e a caught exception of the class C -/
def mIsE (CD : Addr) (m : ME) : ME := fun RX e M R => m RX e M fun x M1 => match x with
  | .ref a => M1 a = some (.exc (.ref CD)) ∧ R (.bl true) M1
  | _ => False
theorem call_isX {CD : Addr} (C : ExcC X.K CD) (hk : PySem.W.kitOne X.K (.ref CD) (.ref CD) = some true) : CallR X (.builtin "isinstance") (fun xs H Q => ∃ a, xs = [.ref a, .ref CD] ∧ H a = some (ExT (.ref CD) a) ∧ Q (.bl true) H) := by
  intro pins s σ H xs us Q I r h
  obtain ⟨a, rfl, ea, q⟩ := h
  cases r with
  | cons ra r =>
    cases r with
    | cons rc r =>
      cases r
      cases ra
      cases rc
      obtain ⟨⟨oe, vs, g, hz, hv⟩, _, _⟩ := I.hok a _ ea
      have J : PySem.W.InstAt s.heap a oe CD none := by
        obtain ⟨oc, od, oda, osl⟩ := oe
        obtain ⟨h1, h2⟩ := hz
        dsimp only at h1 h2 hv
        subst h1 h2 hv
        exact ⟨g, rfl, rfl, trivial⟩
      exact PySem.W.kia_one (PySem.W.handS_kitx_exc C.hg C.hk C.hs C.hd C.ha C.hn C.ht C.hm) I.kIn J hk (fun z => nomatch z) fun tk => ⟨.bl true, H, I.kept (t' := tk) fun _ _ z => z, rfl, q⟩
theorem me_isE {CD : Addr} {x : Str} {p p2 : Pos} {e : Expr} {m : ME} (C : ExcC X.K CD) (hk : PySem.W.kitOne X.K (.ref CD) (.ref CD) = some true) (hm : X.mg "isinstance" = none) (hx : X.mg x = some (.ref CD)) (ha : PE X e (Lf X.K T Wx m))
    (hg : Gl X "isinstance" := by rfl) (hgx : Gl X x := by rfl) (hd : (x == ("__debug__" : Str)) = false := by decide)
    (he : starEach [e, .Name x p2] X.env = (false, eval e X.env) :: starEach [.Name x p2] X.env := by rfl) (he2 : starEach [.Name x p2] X.env = (false, eval (.Name x p2) X.env) :: starEach [] X.env := by rfl) (hpl : (backTo pos (starEach [.Name x p2] X.env)).any (·.1) = false := by rfl) :
    PE X (.Call (.Name "isinstance" p) [e, .Name x p2] [] pos) (Lf X.K T Wx (mIsE CD m)) := by
  refine PE.wk (pe_callB (call_isX C hk) hg hm (by decide +kernel) (pa_cons ha (pa_cons (pe_glob (v := .ref CD) hgx hx rfl hd) pa_nil he2) he) (by decide) (by decide) he hpl) fun σ H Q h => ?_
  obtain ⟨RX, e0, M, R, b, h, k⟩ := h
  refine one_ok b h fun w M1 v H1 x1 r1 p1 h1 => ?_
  split at h1
  · rename_i a
    simp only [Rep] at p1
    exact ⟨a, by rw [p1], r1.ob a _ h1.1, k _ M1 _ H1 x1 r1 (by simp only [Rep]) h1.2⟩
  · exact h1.elim
end
end ML


set_option Elab.async false
set_option linter.all false
set_option maxRecDepth 100000
set_option maxHeartbeats 2000000
namespace ML
open PySem PySem.Spec PyProof.Rows L2
theorem u64 {k : Nat} {A : Around} (h : Room k A) : A.units + 64 < cLine := by have := h.un; omega
theorem u1 {k : Nat} {A : Around} (h : Room k A) : A.units + 1 < cLine := by have := h.un; omega
/-- a def of the text as it stands in the written part -/
structure Df (K : PySem.W.Frag) (mg : Str → Option Value) (x : Str) (st : Stmt) (ps : List Str) where
  f : Addr
  fd : FuncData
  cdv : Value
  ex : ∃ (oc : Value) (od : Option Addr) (kV doc pm : Value) (an : Option Addr) (ct : Value) (osl : Array (Option Value)), fd = PySem.W.fnOf x x (defArgs st) (defBody st) (defScope st) .none kV doc pm an cdv ct ∧ K.lookup f = some ⟨oc, od, .func fd, osl⟩
  cd : PySem.W.codeIn K cdv x = true
  m : mg x = some (.ref f)
  k : PySem.W.keepIn K (.ref f) = true
  b : Binds K fd ps []
section
variable {P : Program} {w : World} {K : PySem.W.Frag} {mg : Str → Option Value} {base : Heap} {T : List (Addr × Str)} {gd : Bool}
theorem Df.ok {x : Str} {st : Stmt} {N ps : List Str} {k n : Nat} {body : MS} (d : Df K mg x st ps) (S : FnScope N ps (defScope st)) (hn : ps.length = n)
    (hbody : ∀ (A : Around) (outer : List Env) (s : Shared) (H : Hp) (E : XK), Room k (A.deeper (envOfC x (defScope st) s.heap.objs.size d.f d.cdv)) → (gd = true → A.guards = some []) →
      PSs (cxOf (L2.CX P w) P w K mg base N x (defScope st) d.f d.cdv A outer s H E) (defBody st) (LfS K T (fnW E) body)) : FnG P w K mg base T gd (k + 1) d.f d.fd ps n (mDef N.length body) := by
  obtain ⟨oc, od, kV, doc, pm, an, ct, osl, e, lk⟩ := d.ex
  refine ⟨hn, fun A outer s H args us vs Q E hr gA e0 hb r hsp => ?_⟩
  have hl : vs.length = ps.length := by rw [hsp.len, hn]
  rw [e] at lk hb
  refine LamX.run_ofS lk d.cd S hr e0 hb r hl fun hr' => ⟨_, hbody A outer s H E hr' gA, ?_⟩
  obtain ⟨RX, ws, M, R, lw, pw, rl, h, kR, kX⟩ := hsp
  refine ⟨fgX RX, startM N.length ws, M, _, ⟨repE_start pw, rl, fun C M' σ' H' x r' ⟨M2, s2, q⟩ => kX C M2 H' (x.sub s2) (r'.sub s2) q⟩, h, ?_⟩
  exact ⟨fun e' M' σ' H' x _ r' ⟨M2, s2, q⟩ => kR .non M2 .non H' (x.sub s2) (r'.sub s2) (by simp only [Rep]) q, fun w' M' v H' x r' p ⟨M2, s2, q⟩ => kR w' M2 v H' (x.sub s2) (r'.sub s2) p q, fun _ _ _ _ _ _ _ z => z, fun _ _ _ _ _ _ _ z => z⟩
theorem Df.kb {x : Str} {st : Stmt} {ps ks : List Str} {n : Nat} (d : Df K mg x st ps) (g : {α : Type} → List α → List α) (h : ∀ (kV doc pm : Value) (an : Option Addr) (ct : Value) (ws : List Value), ws.length = n → bindArgs (PySem.W.fnOf x x (defArgs st) (defBody st) (defScope st) .none kV doc pm an d.cdv ct) ⟨[], ks.zip ws⟩ = pure (ps.zip (g ws))) :
    ∀ (s : Shared) (ws : List Value), ws.length = n → BindsTo s d.fd ⟨[], ks.zip ws⟩ (ps.zip (g ws)) := by
  obtain ⟨oc, od, kV, doc, pm, an, ct, osl, e, lk⟩ := d.ex
  intro s ws hl
  rw [e]
  exact .of_eq (h kV doc pm an ct ws hl)
variable {X : Cx} {Wx : WX} {pos : Pos}
theorem me_gint {x : Str} {i : Int} (hm : ∃ t, X.mg x = some (.int i t)) (hg : Gl X x := by rfl) (hd : (x == ("__debug__" : Str)) = false := by decide) : PE X (.Name x pos) (Lf X.K T Wx (mC (.int i))) := by
  obtain ⟨t, hm⟩ := hm
  exact me_glob (v := .int i) hm ⟨t, rfl⟩ (fun _ => by simp only [Rep]) hg hd
theorem me_gtup {x : Str} {w : W} (hm : ∃ p, X.mg x = some (.ref p) ∧ ∀ H, Rep X.K H w (.ref p)) (hg : Gl X x := by rfl) (hd : (x == ("__debug__" : Str)) = false := by decide) : PE X (.Name x pos) (Lf X.K T Wx (mC w)) := by
  obtain ⟨p, hm, hr⟩ := hm
  exact me_glob (v := .ref p) hm rfl hr hg hd
end
/-- a class of errors -/
structure ErrC (K : PySem.W.Frag) (mg : Str → Option Value) (x : Str) (C CS : Addr) : Prop where
  m : mg x = some (.ref C)
  k : PySem.W.keepIn K (.ref C) = true
  ei : PySem.W.excIn K C [.type "ValueError", .type "Exception", .type "BaseException", .type "object"] "ValueError.__new__" = true
  sub : PySem.W.subIn K (.ref C) (.type "BaseException") = some true
  ty : PySem.W.typeIn K (.ref C) = some (.type "type")
  ec : ExcC K C
  me : PySem.W.kitOne K (.ref C) (.ref C) = some true
  em : PySem.W.exmOne K (.ref C) (.ref CS) = some true
theorem ms_err {X : Cx} {T : List (Addr × Str)} {Wx : WX} {x m : Str} {j : Nat} {p p2 pos pos2 : Pos} {C CS : Addr} (hc : X.calm = true) (tk : Takes X Wx) (e : ErrC X.K X.mg x C CS) (hg : Gl X x := by rfl) (hdb : (x == ("__debug__" : Str)) = false := by decide) :
    PS X (.Raise (some (.Call (.Name x p) [.Constant (.str m) j p2] [] pos)) none pos2) (LfS X.K T Wx (mRaise C)) := ms_raise hc tk PySem.F.excBase_ValueError e.ei e.m e.k (raises_own e.sub e.ty) hg hdb
theorem me_err {X : Cx} {T : List (Addr × Str)} {Wx : WX} {x : Str} {pos p p2 : Pos} {e : Expr} {m : ME} {C CS : Addr} (er : ErrC X.K X.mg x C CS) (hm : X.mg "isinstance" = none) (ha : PE X e (Lf X.K T Wx m))
    (hg : Gl X "isinstance" := by rfl) (hgx : Gl X x := by rfl) (hd : (x == ("__debug__" : Str)) = false := by decide)
    (he : starEach [e, .Name x p2] X.env = (false, eval e X.env) :: starEach [.Name x p2] X.env := by rfl) (he2 : starEach [.Name x p2] X.env = (false, eval (.Name x p2) X.env) :: starEach [] X.env := by rfl) (hpl : (backTo pos (starEach [.Name x p2] X.env)).any (·.1) = false := by rfl) :
    PE X (.Call (.Name "isinstance" p) [e, .Name x p2] [] pos) (Lf X.K T Wx (mIsE C m)) := me_isE er.ec er.me hm er.m ha hg hgx hd he he2 hpl
end ML


set_option Elab.async false
set_option linter.all false
set_option maxRecDepth 100000
set_option maxHeartbeats 2000000
namespace ML
open PySem PySem.Spec PyProof.Rows L2
theorem nodup_look {α β : Type} : ∀ {l : List (α × β)}, (l.map Prod.fst).Nodup → ∀ {a : α} {x : β}, (a, x) ∈ l → ∀ p ∈ l, p.1 = a → p.2 = x
  | [], _, _, _, h, _, _, _ => by cases h
  | (b, y) :: l, n, a, x, h, p, hp, e => by
    have n2 := List.nodup_cons.mp n
    rcases List.mem_cons.mp h with h | h
    · cases h
      rcases List.mem_cons.mp hp with q | q
      · rw [q]
      · exact absurd (List.mem_map.mpr ⟨p, q, e⟩) n2.1
    · rcases List.mem_cons.mp hp with q | q
      · rw [q] at e
        exact absurd (List.mem_map.mpr ⟨(a, x), h, e.symm⟩) n2.1
      · exact nodup_look n2.2 h p q e
section
variable {X : Cx} {T : List (Addr × Str)} {Wx : WX} {pos : Pos} {gd : Bool}
theorem paired_snoc {α β : Type} {F : α → β → Prop} {a : α} {b : β} (h : F a b) : ∀ {l : List α} {m : List β}, Paired F l m → Paired F (l ++ [a]) (m ++ [b])
  | _, _, .nil => .cons h .nil
  | _ :: _, _ :: _, .cons x t => .cons x (paired_snoc h t)
theorem paired_reverse {α β : Type} {F : α → β → Prop} : ∀ {l : List α} {m : List β}, Paired F l m → Paired F l.reverse m.reverse
  | _, _, .nil => .nil
  | _ :: _, _ :: _, .cons x t => by rw [List.reverse_cons, List.reverse_cons]; exact paired_snoc x (paired_reverse t)
/-- f(z = .., y = .., x = ..): the keywords in the order opposite to the parameters' -/
theorem me_callR {x : Str} {k : Nat} {st : Stmt} {ps : List Str} (ks : List Str) {sp : MSp} {n : Nat} {p : Pos} {kws : List Keyword} {ms : List ME} (d : Df X.K X.mg x st ps) (F : FnG X.prog X.w X.K X.mg X.base T gd k d.f d.fd ps n sp) (hr : Room k X.A) (gA : gd = true → X.A.guards = some [])
    (h : ∀ (kV doc pm : Value) (an : Option Addr) (ct : Value) (ws : List Value), ws.length = n → bindArgs (PySem.W.fnOf x x (defArgs st) (defBody st) (defScope st) .none kV doc pm an d.cdv ct) ⟨[], ks.zip ws⟩ = pure (ps.zip ws.reverse))
    (tk : Takes X Wx) (ha : PK X kws (tCh X.K T Wx ms)) (hn : ms.length = n := by rfl) (hg : Gl X x := by rfl) (hdb : (x == ("__debug__" : Str)) = false := by decide)
    (hall : (backToKw pos (keywordEach kws X.env)).all (·.1.isSome) = true := by rfl) (hks : (backToKw pos (keywordEach kws X.env)).filterMap (·.1) = ks := by rfl)
    (hpl : ((backTo pos (starEach [] X.env)).any (·.1) || (backToKw pos (keywordEach kws X.env)).any (·.1.isNone)) = false := by rfl) :
    PE X (.Call (.Name x p) [] kws pos) (Lf X.K T Wx (mCall (fun RX ws M R => sp RX ws.reverse M R) ms)) :=
  me_callK ks (fun l => l.reverse) F hr gA d.m d.k (d.kb (fun l => l.reverse) h) (fun r _ => paired_reverse r) (fun r hl => ⟨paired_reps (paired_reverse (reps_paired r)), by rw [List.length_reverse, ← r.length]; exact hl⟩) tk ha hn hg hdb hall hks hpl
/-- caught(lambda: ..), by the def's text -/
theorem me_caughtD {ok : Addr → Prop} {c P CS : Addr} {k i j k0 : Nat} {st : Stmt} {Ng : List Str} {params : Arguments} {body : Expr} {scope : Scope} {m : ME} {a y n e x : Str} {p lpos p1 p2 p3 p4 p5 p6 p7 p8 p9 p10 p11 p12 p13 p14 : Pos}
    (d : Df X.K X.mg x st [a]) (hst : defBody st = [.Assign [.Name y p1] (.Constant .none k0 p2) p3, .Try [.Expr (.Call (.Name a p4) [] [] p5) p6] [.ExceptHandler (some (.Name e p7)) (some n) [.Assign [.Name y p8] (.Name n p9) p10] p11] [] [] p12, .Return (some (.Name y p13)) p14])
    (Sg : FnScope Ng [a] (defScope st)) (hNg : Ng[0]? = some a) (hva : Vis (defScope st) a) (hj : Ng[j]? = some y) (hi : Ng[i]? = some n) (hij : i ≠ j) (hj0 : j ≠ 0) (hy : (defScope st).names.lookup y = some .local) (hn : (defScope st).names.lookup n = some .local) (hge : (defScope st).names.lookup e = some .globalImplicit)
    (hme : X.mg e = some (.ref CS)) (hde : (e == ("__debug__" : Str)) = false) (h0 : ∀ f : Addr, (L2.start Ng [V.ref f])[0]? = some (some (V.ref f))) (hdy : (y == ("__debug__" : Str)) = false) (hcy : (y == ("__classdict__" : Str)) = false) (hdn : (n == ("__debug__" : Str)) = false) (hcn : (n == ("__classdict__" : Str)) = false)
    (hdb : (x == ("__debug__" : Str)) = false) (hd : (a == ("__debug__" : Str)) = false) (hcd : (a == ("__classdict__" : Str)) = false)
    (hok : ∀ C, ok C → PySem.W.exmOne X.K (.ref C) (.ref CS) = some true)
    (TB : LamX.TabB X.base X.mg c P) (hcode : X.env.code = .ref c) (hmT : (P, X.env.qual ++ "<lambda>") ∈ T) (hu : ∀ p ∈ T, p.1 = P → p.2 = X.env.qual ++ "<lambda>") (hr : Room (k + 2) X.A)
    (hbody : ∀ (A : Around) (outer : List Env) (s : Shared) (H : Hp) (E : XK) (f c' : Addr), Room k (A.deeper (LamX.lamEnv X scope s.heap.objs.size f c')) → PE (LamX.lamCx X A outer s H E scope f c') body (Lf X.K T (fnW E) m))
    (L : LamX.LamS X.env.scope scope := by exact LamX.lamS_by (by decide +kernel)) (hdef : defaultsOf params X.env = ([], []) := by rfl)
    (hbind : ∀ (q : Str) (cl : List (Str × Addr)) (pm cv ctv : Value), bindArgs (PySem.W.kla_fn "<lambda>" q params body scope cl pm cv ctv) ⟨[], []⟩ = pure [] := by intros; rfl)
    (hg : Gl X x := by rfl) : PE X (.Call (.Name x p) [.Lambda params body scope lpos] [] pos) (Lf X.K T Wx (mCaught ok m)) := by
  obtain ⟨oc, od, kV, doc, pm, an, ct, osl, ef, lk⟩ := d.ex
  have hb := d.b
  rw [ef, hst] at lk hb
  exact me_caught d.m d.k lk d.cd hb Sg hNg hva hj hi hij hj0 hy hn hge hme hde h0 hdy hcy hdn hcn hok TB hcode hmT hu hr L hdef hbind hbody hg hdb hd hcd
end
end ML


set_option Elab.async false
set_option linter.all false
set_option maxRecDepth 100000
set_option maxHeartbeats 2000000
namespace ML
open PySem PySem.Spec PyProof.Rows L2
/-! ### the plain side: loops and comprehensions by invariants -/
theorem forL_ind {G : Mh → Prop} {tg : Tg} {b : MS} {RX : MX} {D : MEnds} (I : Nat → MEnv → Mh → Prop) : ∀ (ws : List W) (n : Nat) (e : MEnv) (M : Mh), I n e M →
    (∀ (i : Nat) (w : W) (e : MEnv) (M : Mh) (k : MEnv → Mh → Prop), ws[i]? = some w → I (n + i) e M → (∀ e' M', I (n + i + 1) e' M' → k e' M') → G M ∧ ∃ e1, bindT tg w e = some e1 ∧ b RX { D with nx := k, ct := k, bk := D.nx } e1 M) →
    (∀ e M, I (n + ws.length) e M → G M ∧ D.nx e M) → forL G tg b RX D ws e M
  | [], n, e, M, h, _, fin => fin e M (by simpa using h)
  | w :: ws, n, e, M, h, step, fin => by
    obtain ⟨g, e1, eb, hb⟩ := step 0 w e M (forL G tg b RX D ws) rfl (by simpa using h) fun e' M' h' =>
      forL_ind I ws (n + 1) e' M' (by simpa using h') (fun i w' e2 M2 k hw hi hk => step (i + 1) w' e2 M2 k (by simpa using hw) (by rw [show n + (i + 1) = n + 1 + i by omega]; exact hi) (by rw [show n + (i + 1) + 1 = n + 1 + i + 1 by omega]; exact hk))
        (fun e2 M2 hi => fin e2 M2 (by rw [List.length_cons, show n + (ws.length + 1) = n + 1 + ws.length by omega]; exact hi))
    refine ⟨g, ?_⟩
    rw [eb]
    exact hb
theorem lcL_map {G : Mh → Prop} {tg : Tg} {mt : MT} {me : ME} {e0 : MEnv} {F : List W → Mh → Prop} {M : Mh} (f : W → W) (p : W → Bool) (g : G M) : ∀ (ws acc : List W),
    (∀ w ∈ ws, ∃ e1, bindT tg w e0 = some e1 ∧ (∀ R, R (p w) M → mt noX e1 M R) ∧ (p w = true → ∀ R, R (f w) M → me noX e1 M R)) → F (acc ++ (ws.filter p).map f) M → lcL G tg mt me e0 F ws acc M
  | [], acc, _, h => ⟨g, by simpa using h⟩
  | w :: ws, acc, hw, h => by
    obtain ⟨e1, eb, h1, h2⟩ := hw w List.mem_cons_self
    refine ⟨g, ?_⟩
    rw [eb]
    refine h1 _ ?_
    cases hp : p w with
    | true =>
      rw [if_pos rfl]
      refine h2 hp _ ?_
      refine lcL_map f p g ws (acc ++ [f w]) (fun x hx => hw x (List.mem_cons_of_mem _ hx)) ?_
      rw [List.filter_cons, hp] at h
      simpa using h
    | false =>
      rw [if_neg (by decide)]
      refine lcL_map f p g ws acc (fun x hx => hw x (List.mem_cons_of_mem _ hx)) ?_
      rw [List.filter_cons, hp] at h
      simpa using h
/-- each element any one of its kind -/
theorem lcL_any {G : Mh → Prop} {tg : Tg} {me : ME} {e0 : MEnv} {F : List W → Mh → Prop} {M : Mh} (P : W → W → Prop) (g : G M) : ∀ (ws acc : List W),
    (∀ w ∈ ws, ∃ e1, bindT tg w e0 = some e1 ∧ ∀ R : MK, (∀ y, P w y → R y M) → me noX e1 M R) → (∀ ys, Paired P ws ys → F (acc ++ ys) M) → lcL G tg mYes me e0 F ws acc M
  | [], acc, _, h => ⟨g, by simpa using h [] .nil⟩
  | w :: ws, acc, hw, h => by
    obtain ⟨e1, eb, h2⟩ := hw w List.mem_cons_self
    refine ⟨g, ?_⟩
    rw [eb]
    show if true = true then me noX e1 M (fun y M2 => lcL G tg mYes me e0 F ws (acc ++ [y]) M2) else lcL G tg mYes me e0 F ws acc M
    rw [if_pos rfl]
    refine h2 _ fun y hy => ?_
    refine lcL_any P g ws (acc ++ [y]) (fun x hx => hw x (List.mem_cons_of_mem _ hx)) fun ys hys => ?_
    have := h (y :: ys) (.cons hy hys)
    simpa using this
/-- a larger map is as good -/
theorem sub_set {M M' : Mh} {p : Addr} {o o' : MO} (h : Sub (updM M p o) M') : Sub (updM M p o') (updM M' p o') := fun a u e => by
  by_cases z : a = p
  · subst z; rw [updM_same] at e ⊢; exact e
  · rw [updM_ne z] at e ⊢; exact h a u (by rw [updM_ne z]; exact e)
theorem sub_at {M M' : Mh} {p : Addr} {o : MO} (h : Sub (updM M p o) M') : M' p = some o := h p o updM_same
theorem sub_of {M M' : Mh} {p : Addr} {o : MO} (h : Sub (updM M p o) M') (n : M p = none) : Sub M M' := fun a u e => h a u (by rw [updM_ne (ne_of_noneM e n)]; exact e)
theorem sub_new {M : Mh} {p : Addr} {o : MO} (n : M p = none) : Sub M (updM M p o) := Sub.refl.new n
theorem free_sub {M M' : Mh} {p : Addr} (h : Sub M M') (n : M' p = none) : M p = none := h.free n
/-! ### the drawing state opened -/
def stD (g c : Addr) (rest turn : Int) : List (Key × W) := [(.inr "great", .ref g), (.inr "cells", .ref c), (.inr "rest", .int rest), (.inr "turn", .int turn)]
def opened (M : Mh) (s g c : Addr) (gs cs : List Int) (rest turn : Int) : Mh := updM (updM (updM M c (.lst (cs.map W.int))) g (.lst (gs.map W.int))) s (.dct (stD g c rest turn))
section
variable {K : PySem.W.Frag} {T : List (Addr × Str)} {M M' : Mh} {H H' : Hp} {s g c : Addr} {gs cs gs' : List Int} {rest turn rest' turn' : Int}
theorem stD_rep : RepF K H (stD g c rest turn) [(.inr "great", .ref g), (.inr "cells", .ref c), (.inr "rest", .int rest), (.inr "turn", .int turn)] := by
  simp only [stD, RepF, Rep]
  exact ⟨_, _, rfl, rfl, _, _, rfl, rfl, _, _, rfl, rfl, _, _, rfl, rfl, rfl⟩
theorem stD_inv {us : List (Key × V)} (h : RepF K H (stD g c rest turn) us) : us = [(.inr "great", .ref g), (.inr "cells", .ref c), (.inr "rest", .int rest), (.inr "turn", .int turn)] := by
  simp only [stD, RepF, Rep] at h
  obtain ⟨_, _, rfl, rfl, _, _, rfl, rfl, _, _, rfl, rfl, _, _, rfl, rfl, rfl⟩ := h
  rfl
theorem drw_ne (d : DrwAt H s g c gs cs rest turn) : s ≠ g ∧ s ≠ c ∧ g ≠ c := by
  obtain ⟨d1, d2, d3, d4, _⟩ := d
  refine ⟨fun z => ?_, fun z => ?_, d4⟩
  · subst z; rw [d1] at d2; cases d2
  · subst z; rw [d1] at d3; cases d3
theorem Rel.opened (r : Rel K T M H) {n : Nat} (hs : M s = some (.drw n)) (d : DrwAt H s g c gs cs rest turn) (ng : M g = none) (nc : M c = none) (un : ∀ b, (∃ m, M b = some (.drw m)) → b = s) : Rel K T (opened M s g c gs cs rest turn) H := by
  obtain ⟨n1, n2, n3⟩ := drw_ne d
  refine ⟨fun a o e => ?_, r.tab⟩
  unfold ML.opened at e
  by_cases z : a = s
  · subst z
    rw [updM_same] at e; cases e
    exact ⟨_, d.1, stD_rep⟩
  · rw [updM_ne z] at e
    by_cases z2 : a = g
    · subst z2
      rw [updM_same] at e; cases e
      exact ⟨_, d.2.1, Reps.ints⟩
    · rw [updM_ne z2] at e
      by_cases z3 : a = c
      · subst z3
        rw [updM_same] at e; cases e
        exact ⟨_, d.2.2.1, Reps.ints⟩
      · rw [updM_ne z3] at e
        have q := r.ob a o e
        cases o with
        | lst ws => exact q
        | dct ws => exact q
        | ins C fs => exact q
        | exc c => exact q
        | drw m => exact absurd (un a ⟨m, e⟩) z
/-- what a draw leaves -/
structure Left (M M' : Mh) (s g c : Addr) (gs cs : List Int) (rest turn : Int) : Prop where
  at_s : M' s = some (.dct (stD g c rest turn))
  at_g : M' g = some (.lst (gs.map W.int))
  at_c : M' c = some (.lst (cs.map W.int))
  sub : ∀ a o, a ≠ s → M a = some o → M' a = some o
  ng : ∀ i ∈ gs, 0 ≤ i
  nc : ∀ i ∈ cs, 0 ≤ i
  nr : 0 ≤ rest
  nt : 0 ≤ turn
  lg : gs.length ≤ 63
  lc : cs.length ≤ 63
theorem Left.drw (l : Left M M' s g c gs cs rest turn) (r : Rel K T M' H') (gc : g ≠ c) : DrwAt H' s g c gs cs rest turn := by
  obtain ⟨us, e1, q1⟩ := r.ob s _ l.at_s
  obtain ⟨vs, e2, q2⟩ := r.ob g _ l.at_g
  obtain ⟨ws, e3, q3⟩ := r.ob c _ l.at_c
  rw [stD_inv q1] at e1
  rw [q2.ints_inv] at e2
  rw [q3.ints_inv] at e3
  exact ⟨e1, e2, e3, gc, l.ng, l.nc, l.nr, l.nt, l.lg, l.lc⟩
theorem Left.rel (l : Left M M' s g c gs cs rest turn) (r : Rel K T M' H') (gc : g ≠ c) {n n' : Nat} (hs : M s = some (.drw n)) (hb : turn + (n' : Int) ≤ 1099511627776) (ng : M g = none) (nc : M c = none) (un : ∀ b, (∃ m, M b = some (.drw m)) → b = s) : Rel K T (updM M s (.drw n')) H' := by
  have gs' : g ≠ s := fun z => by subst z; rw [hs] at ng; cases ng
  have cs' : c ≠ s := fun z => by subst z; rw [hs] at nc; cases nc
  refine ⟨fun a o e => ?_, r.tab⟩
  by_cases z : a = s
  · subst z
    rw [updM_same] at e; cases e
    refine ⟨⟨g, c, gs, cs, rest, turn, l.drw r gc, by rw [updM_ne gs']; exact ng, by rw [updM_ne cs']; exact nc, hb⟩, fun b ⟨m, e⟩ => ?_⟩
    by_cases zb : b = a
    · exact zb
    · rw [updM_ne zb] at e; exact un b ⟨m, e⟩
  · rw [updM_ne z] at e
    have q := r.ob a o (l.sub a o z e)
    cases o with
    | lst ws => exact q
    | dct ws => exact q
    | ins C fs => exact q
    | exc c => exact q
    | drw m => exact absurd (un a ⟨m, e⟩) z
theorem Left.ext (l : Left M M' s g c gs' cs rest' turn') (r0 : Rel K T M H) (r : Rel K T M' H') (x : Ext (opened M s g c gs cs rest turn) H M' H') (d : DrwAt H s g c gs cs rest turn) {n n' : Nat} (hs : M s = some (.drw n)) (un : ∀ b, (∃ m, M b = some (.drw m)) → b = s) : Ext M H (updM M s (.drw n')) H' := by
  obtain ⟨n1, n2, n3⟩ := drw_ne d
  have own : ∀ a, ¬ Own M H a → ¬ Own (opened M s g c gs cs rest turn) H a := fun a n o => by
    have as : a ≠ s := fun z => by subst z; exact n (.inl (by rw [hs]; simp))
    have ag : a ≠ g := fun z => by subst z; exact n (.inr ⟨s, a, c, gs, cs, rest, turn, ⟨_, hs⟩, d, .inl rfl⟩)
    have ac : a ≠ c := fun z => by subst z; exact n (.inr ⟨s, g, a, gs, cs, rest, turn, ⟨_, hs⟩, d, .inr rfl⟩)
    rcases o with o | ⟨s', g', c', gs', cs', r', t', e, _, _⟩
    · unfold ML.opened at o
      rw [updM_ne as, updM_ne ag, updM_ne ac] at o
      exact n (.inl o)
    · obtain ⟨m, e⟩ := e
      unfold ML.opened at e
      by_cases z : s' = s
      · subst z; rw [updM_same] at e; cases e
      · rw [updM_ne z] at e
        by_cases z2 : s' = g
        · subst z2; rw [updM_same] at e; cases e
        · rw [updM_ne z2] at e
          by_cases z3 : s' = c
          · subst z3; rw [updM_same] at e; cases e
          · rw [updM_ne z3] at e
            exact z (un s' ⟨m, e⟩)
  refine ⟨x.grow, fun a u m e n o => n ?_, fun a u m e n => x.keep a u m e (own a n)⟩
  rcases o with o | ⟨s', g', c', gs2, cs2, r2, t2, e2, d2, z⟩
  · by_cases z : a = s
    · subst z; exact .inl (by rw [hs]; simp)
    · rw [updM_ne z] at o; exact .inl o
  · have es : s' = s := by
      by_cases z : s' = s
      · exact z
      · obtain ⟨m, e2⟩ := e2
        rw [updM_ne z] at e2; exact un s' ⟨m, e2⟩
    subst es
    obtain ⟨q1, q2⟩ := (l.drw r n3).same d2 rfl
    subst q1; subst q2
    exact .inr ⟨s', _, _, _, _, _, _, ⟨_, hs⟩, d, z⟩
/-- a new state -/
theorem Left.relN (l : Left M M' s g c gs cs rest turn) (r : Rel K T M' H') (gc : g ≠ c) (hs : M s = none) (ng : M g = none) (nc : M c = none) (gs' : g ≠ s) (cs' : c ≠ s) {n : Nat} (hb : turn + (n : Int) ≤ 1099511627776) (un : ∀ b m, M b ≠ some (.drw m)) : Rel K T (updM M s (.drw n)) H' := by
  refine ⟨fun a o e => ?_, r.tab⟩
  by_cases z : a = s
  · subst z
    rw [updM_same] at e; cases e
    refine ⟨⟨g, c, gs, cs, rest, turn, l.drw r gc, by rw [updM_ne gs']; exact ng, by rw [updM_ne cs']; exact nc, hb⟩, fun b ⟨m, e⟩ => ?_⟩
    by_cases zb : b = a
    · exact zb
    · rw [updM_ne zb] at e; exact absurd e (un b m)
  · rw [updM_ne z] at e
    have q := r.ob a o (l.sub a o z e)
    cases o with
    | lst ws => exact q
    | dct ws => exact q
    | ins C fs => exact q
    | exc c => exact q
    | drw m => exact absurd e (un a m)
theorem Left.extN (l : Left M M' s g c gs cs rest turn) (r : Rel K T M' H') (gc : g ≠ c) (x : Ext M H M' H') {n : Nat} (un : ∀ b m, M b ≠ some (.drw m)) : Ext M H (updM M s (.drw n)) H' := by
  refine ⟨x.grow, fun a u m e n o => x.fr a u m e n (.inl ?_), x.keep⟩
  rcases o with o | ⟨s', g', c', gs2, cs2, r2, t2, e2, d2, z⟩
  · by_cases z : a = s
    · subst z; rw [l.at_s]; simp
    · rw [updM_ne z] at o
      cases e2 : M a with
      | none => exact absurd e2 o
      | some u2 => rw [l.sub a u2 z e2]; simp
  · have es : s' = s := by
      by_cases z : s' = s
      · exact z
      · obtain ⟨m, e2⟩ := e2
        rw [updM_ne z] at e2; exact absurd e2 (un s' m)
    subst es
    obtain ⟨q1, q2⟩ := (l.drw r gc).same d2 rfl
    subst q1; subst q2
    rcases z with z | z
    · rw [z, l.at_g]; simp
    · rw [z, l.at_c]; simp
end
end ML


set_option Elab.async false
set_option linter.all false
set_option maxRecDepth 100000
set_option maxHeartbeats 2000000
namespace ML
open PySem PySem.Spec PyProof.Rows L2
/-! ### plain values: ints, texts, None, tuples of such -/
mutual
def pl : W → Bool
  | .non => true
  | .int _ => true
  | .str x => PyData.canLay0 (.str x)
  | .tup ws => pls ws
  | _ => false
def pls : List W → Bool
  | [] => true
  | w :: ws => pl w && pls ws
end
mutual
def dW : W → PyData
  | .non => .none
  | .bl b => .bool b
  | .int i => .int i
  | .str x => .str x
  | .tup ws => .tuple (dWs ws)
  | _ => .none
def dWs : List W → List PyData
  | [] => []
  | w :: ws => dW w :: dWs ws
end
theorem dWs_map : ∀ ws : List W, dWs ws = ws.map dW
  | [] => rfl
  | w :: ws => by rw [dWs, dWs_map ws]; rfl
theorem pls_iff : ∀ ws : List W, pls ws = true ↔ ∀ w ∈ ws, pl w = true
  | [] => by simp [pls]
  | w :: ws => by simp [pls, pls_iff ws]
/-! the depth of what is nested -/
mutual
def dpW : W → Nat
  | .tup ws => dpWs ws + 1
  | _ => 0
def dpWs : List W → Nat
  | [] => 0
  | w :: ws => max (dpW w) (dpWs ws)
end
mutual
theorem dat_pl (M : Mh) : ∀ (n : Nat) (w : W), pl w = true → dat M n w = some (dW w)
  | n, .non, _ => by simp [dat, dW]
  | n, .int _, _ => by simp [dat, dW]
  | n, .str _, _ => by simp [dat, dW]
  | n, .tup ws, h => by
    unfold pl at h
    simp only [dat, dW, dats_pl M n ws h, Option.map_some]
  | n, .bl _, h => by simp [pl] at h
  | n, .ty _, h => by simp [pl] at h
  | n, .ref _, h => by simp [pl] at h
  | n, .lsv _, h => by simp [pl] at h
theorem dats_pl (M : Mh) : ∀ (n : Nat) (ws : List W), pls ws = true → dats M n ws = some (dWs ws)
  | n, [], _ => by simp [dats, dWs]
  | n, w :: ws, h => by
    unfold pls at h
    rw [Bool.and_eq_true] at h
    simp only [dats, dat_pl M n w h.1, dats_pl M n ws h.2, dWs]
end
mutual
theorem lay_pl : ∀ w : W, pl w = true → (dW w).canLay0 = true
  | .non, _ => rfl
  | .int _, _ => rfl
  | .str x, h => by unfold pl at h; exact h
  | .tup ws, h => by
    unfold pl at h
    unfold dW PyData.canLay0
    exact lays_pl ws h
  | .bl _, h => by simp [pl] at h
  | .ty _, h => by simp [pl] at h
  | .ref _, h => by simp [pl] at h
  | .lsv _, h => by simp [pl] at h
theorem lays_pl : ∀ ws : List W, pls ws = true → PyData.canLayAll0 (dWs ws) = true
  | [], _ => rfl
  | w :: ws, h => by
    unfold pls at h
    rw [Bool.and_eq_true] at h
    unfold dWs PyData.canLayAll0
    rw [lay_pl w h.1, lays_pl ws h.2]; rfl
end
mutual
theorem dp_dW : ∀ w : W, (dW w).depth ≤ dpW w
  | .non => Nat.zero_le _
  | .int _ => Nat.zero_le _
  | .str x => Nat.zero_le _
  | .tup ws => by
    unfold dW PyData.depth dpW
    exact Nat.succ_le_succ (dps_dW ws)
  | .bl _ => Nat.zero_le _
  | .ty _ => Nat.zero_le _
  | .ref _ => Nat.zero_le _
  | .lsv _ => Nat.zero_le _
theorem dps_dW : ∀ ws : List W, PyData.depthAll (dWs ws) ≤ dpWs ws
  | [] => Nat.le_refl _
  | w :: ws => by
    unfold dWs PyData.depthAll dpWs
    have := dp_dW w
    have := dps_dW ws
    omega
end
mutual
theorem eqv_pl : ∀ (x y : W), pl x = true → pl y = true → (PyData.eqv (dW x) (dW y) = true ↔ x = y)
  | .non, y, _, hy => by cases y <;> simp_all [pl, dW, PyData.eqv]
  | .int _, y, _, hy => by cases y <;> simp_all [pl, dW, PyData.eqv]
  | .str _, y, _, hy => by cases y <;> simp_all [pl, dW, PyData.eqv]
  | .tup xs, y, hx, hy => by
    cases y with
    | tup ys =>
      unfold pl at hx hy
      simp only [dW, PyData.eqv, W.tup.injEq]
      exact eqvs_pl xs ys hx hy
    | _ => simp_all [pl, dW, PyData.eqv]
  | .bl _, _, h, _ => by simp [pl] at h
  | .ty _, _, h, _ => by simp [pl] at h
  | .ref _, _, h, _ => by simp [pl] at h
  | .lsv _, _, h, _ => by simp [pl] at h
theorem eqvs_pl : ∀ (xs ys : List W), pls xs = true → pls ys = true → (PyData.eqvAll (dWs xs) (dWs ys) = true ↔ xs = ys)
  | [], [], _, _ => by simp [dWs, PyData.eqvAll]
  | [], _ :: _, _, _ => by simp [dWs, PyData.eqvAll]
  | _ :: _, [], _, _ => by simp [dWs, PyData.eqvAll]
  | x :: xs, y :: ys, hx, hy => by
    unfold pls at hx hy
    rw [Bool.and_eq_true] at hx hy
    simp only [dWs, PyData.eqvAll, Bool.and_eq_true, List.cons.injEq, eqv_pl x y hx.1 hy.1, eqvs_pl xs ys hx.2 hy.2]
end
theorem shaped_pl {w : W} (h : pl w = true) (d : dpW w ≤ 60) : SeqAt.shaped (dW w) = true := by
  unfold SeqAt.shaped
  rw [lay_pl w h, Bool.true_and, decide_eq_true_eq]
  exact Nat.le_trans (dp_dW w) (by omega)
theorem dps_le {ws : List W} {n : Nat} (h : ∀ w ∈ ws, dpW w ≤ n) : dpWs ws ≤ n := by
  induction ws with
  | nil => exact Nat.zero_le _
  | cons w ws ih =>
    unfold dpWs
    have h1 := h w List.mem_cons_self
    have h2 := ih fun x hx => h x (List.mem_cons_of_mem _ hx)
    omega
theorem shaped_lst {ws : List W} (h : ∀ w ∈ ws, pl w = true) (d : ∀ w ∈ ws, dpW w ≤ 60) : SeqAt.shaped (.list (ws.map dW)) = true := by
  rw [← dWs_map]
  unfold SeqAt.shaped
  rw [show PyData.canLay0 (.list (dWs ws)) = PyData.canLayAll0 (dWs ws) from rfl, lays_pl ws ((pls_iff ws).mpr h), Bool.true_and, decide_eq_true_eq]
  have : (PyData.list (dWs ws)).depth = PyData.depthAll (dWs ws) + 1 := rfl
  have h2 := dps_dW ws
  have h3 := dps_le d
  omega
/-- == of plain values -/
theorem eqW_pl {M : Mh} {x y : W} (hx : pl x = true) (hy : pl y = true) (dx : dpW x ≤ 60) (dy : dpW y ≤ 60) : ∃ c, eqW M x y = some c ∧ (c = true ↔ x = y) := by
  have key : ∃ c, (match dat M 8 x, dat M 8 y with
    | some d, some e => if SeqAt.shaped d && SeqAt.shaped e then some (PyData.eqv d e) else none
    | _, _ => none) = some c ∧ (c = true ↔ x = y) := by
    rw [dat_pl M 8 x hx, dat_pl M 8 y hy]
    simp only [shaped_pl hx dx, shaped_pl hy dy, Bool.and_self, if_true]
    exact ⟨_, rfl, eqv_pl x y hx hy⟩
  unfold eqW
  split
  · exact ⟨_, rfl, by simp⟩
  · exact ⟨_, rfl, by simp⟩
  · exact key
/-- == of lists of plain values -/
theorem eqW_lst {M : Mh} {p r : Addr} {xs ys : List W} (hp : M p = some (.lst xs)) (hr : M r = some (.lst ys)) (hx : ∀ w ∈ xs, pl w = true) (hy : ∀ w ∈ ys, pl w = true) (dx : ∀ w ∈ xs, dpW w ≤ 60) (dy : ∀ w ∈ ys, dpW w ≤ 60) :
    ∃ c, eqW M (.ref p) (.ref r) = some c ∧ (c = true ↔ xs = ys) := by
  have d1 : dat M 8 (.ref p) = some (.list (xs.map dW)) := by
    unfold dat
    rw [hp]
    simp only [dats_pl M 7 xs ((pls_iff xs).mpr hx), Option.map_some, dWs_map]
  have d2 : dat M 8 (.ref r) = some (.list (ys.map dW)) := by
    unfold dat
    rw [hr]
    simp only [dats_pl M 7 ys ((pls_iff ys).mpr hy), Option.map_some, dWs_map]
  unfold eqW
  simp only [d1, d2, shaped_lst hx dx, shaped_lst hy dy, Bool.and_self, if_true]
  refine ⟨_, rfl, ?_⟩
  rw [← dWs_map, ← dWs_map]
  exact eqvs_pl xs ys ((pls_iff xs).mpr hx) ((pls_iff ys).mpr hy)
theorem fEq_pl {M : Mh} {x y : W} {R : MK} (hx : pl x = true) (hy : pl y = true) (dx : dpW x ≤ 60) (dy : dpW y ≤ 60) (k : ∀ c : Bool, (c = true ↔ x = y) → R (.bl c) M) : fEq x y M R := by
  obtain ⟨c, e, h⟩ := eqW_pl (M := M) hx hy dx dy
  unfold fEq
  rw [e]
  exact k c h
theorem fNe_pl {M : Mh} {x y : W} {R : MK} (hx : pl x = true) (hy : pl y = true) (dx : dpW x ≤ 60) (dy : dpW y ≤ 60) (k : ∀ c : Bool, (c = true ↔ x ≠ y) → R (.bl c) M) : fNe x y M R := by
  obtain ⟨c, e, h⟩ := eqW_pl (M := M) hx hy dx dy
  unfold fNe
  rw [e]
  exact k (!c) (by rw [Bool.not_eq_true', ← Bool.not_eq_true, h])
theorem fEq_lst {M : Mh} {p r : Addr} {xs ys : List W} {R : MK} (hp : M p = some (.lst xs)) (hr : M r = some (.lst ys)) (hx : ∀ w ∈ xs, pl w = true) (hy : ∀ w ∈ ys, pl w = true) (dx : ∀ w ∈ xs, dpW w ≤ 60) (dy : ∀ w ∈ ys, dpW w ≤ 60) (k : ∀ c : Bool, (c = true ↔ xs = ys) → R (.bl c) M) : fEq (.ref p) (.ref r) M R := by
  obtain ⟨c, e, h⟩ := eqW_lst hp hr hx hy dx dy
  unfold fEq
  rw [e]
  exact k c h
theorem fNe_lst {M : Mh} {p r : Addr} {xs ys : List W} {R : MK} (hp : M p = some (.lst xs)) (hr : M r = some (.lst ys)) (hx : ∀ w ∈ xs, pl w = true) (hy : ∀ w ∈ ys, pl w = true) (dx : ∀ w ∈ xs, dpW w ≤ 60) (dy : ∀ w ∈ ys, dpW w ≤ 60) (k : ∀ c : Bool, (c = true ↔ xs ≠ ys) → R (.bl c) M) : fNe (.ref p) (.ref r) M R := by
  obtain ⟨c, e, h⟩ := eqW_lst hp hr hx hy dx dy
  unfold fNe
  rw [e]
  exact k (!c) (by rw [Bool.not_eq_true', ← Bool.not_eq_true, h])
theorem pl_ints {is : List Int} : ∀ w ∈ is.map W.int, pl w = true := fun w hw => by
  obtain ⟨i, _, rfl⟩ := List.mem_map.mp hw
  rfl
theorem dp_ints {is : List Int} : ∀ w ∈ is.map W.int, dpW w ≤ 60 := fun w hw => by
  obtain ⟨i, _, rfl⟩ := List.mem_map.mp hw
  exact Nat.zero_le _
end ML


set_option Elab.async false
set_option linter.all false
set_option maxRecDepth 100000
set_option maxHeartbeats 2000000
namespace ML
open PySem PySem.Spec PyProof.Rows L2
/-! ### repr of plain values; comprehensions by invariants -/
mutual
def smW : W → Bool
  | .int i => decide (i.natAbs < 10 ^ 12)
  | .tup ws => smWs ws
  | _ => true
def smWs : List W → Bool
  | [] => true
  | w :: ws => smW w && smWs ws
end
mutual
def bkW : W → Nat
  | .str x => x.cps.size
  | .tup ws => bkWs ws
  | _ => 0
def bkWs : List W → Nat
  | [] => 0
  | w :: ws => bkW w + 1 + bkWs ws
end
mutual
theorem bulk_dW : ∀ w : W, (dW w).bulk = bkW w
  | .non => rfl
  | .bl _ => rfl
  | .int _ => rfl
  | .str _ => rfl
  | .tup ws => by unfold dW PyData.bulk bkW; exact bulks_dW ws
  | .ty _ => rfl
  | .ref _ => rfl
  | .lsv _ => rfl
theorem bulks_dW : ∀ ws : List W, PyData.bulkAll (dWs ws) = bkWs ws
  | [] => rfl
  | w :: ws => by unfold dWs PyData.bulkAll bkWs; rw [bulk_dW w, bulks_dW ws]
end
mutual
theorem short_dW : ∀ w : W, smW w = true → (dW w).intsShort 13 = true
  | .non, _ => rfl
  | .bl _, _ => rfl
  | .int i, h => by
    unfold smW at h
    unfold dW PyData.intsShort
    exact decide_eq_true (PyData.shown_int_le (of_decide_eq_true h))
  | .str _, _ => rfl
  | .tup ws, h => by unfold smW at h; unfold dW PyData.intsShort; exact shorts_dW ws h
  | .ty _, _ => rfl
  | .ref _, _ => rfl
  | .lsv _, _ => rfl
theorem shorts_dW : ∀ ws : List W, smWs ws = true → PyData.intsShortAll 13 (dWs ws) = true
  | [], _ => rfl
  | w :: ws, h => by
    unfold smWs at h
    rw [Bool.and_eq_true] at h
    unfold dWs PyData.intsShortAll
    rw [short_dW w h.1, shorts_dW ws h.2]; rfl
end
theorem log_small {i : Int} (h : i.natAbs < 10 ^ 12) : i.natAbs.log2 < 1920 := by
  by_cases z : i.natAbs = 0
  · rw [z]; decide
  · rw [Nat.log2_lt z]
    exact Nat.lt_trans h (by decide)
mutual
theorem showable_dW : ∀ w : W, smW w = true → (dW w).showable = true
  | .non, _ => rfl
  | .bl _, _ => rfl
  | .int i, h => by
    unfold smW at h
    unfold dW PyData.showable
    exact decide_eq_true (log_small (of_decide_eq_true h))
  | .str _, _ => rfl
  | .tup ws, h => by unfold smW at h; unfold dW PyData.showable; exact showables_dW ws h
  | .ty _, _ => rfl
  | .ref _, _ => rfl
  | .lsv _, _ => rfl
theorem showables_dW : ∀ ws : List W, smWs ws = true → PyData.showableAll (dWs ws) = true
  | [], _ => rfl
  | w :: ws, h => by
    unfold smWs at h
    rw [Bool.and_eq_true] at h
    unfold dWs PyData.showableAll
    rw [showable_dW w h.1, showables_dW ws h.2]; rfl
end
/-- plain, with small ints, not deep, not bulky -/
structure Nc (k : Nat) (w : W) : Prop where
  pl : pl w = true
  sm : smW w = true
  dp : dpW w ≤ 50
  bk : bkW w ≤ k
theorem nc_int {i : Int} {k : Nat} (h : -1000000 ≤ i ∧ i ≤ 1000000) : Nc k (.int i) := ⟨rfl, by unfold smW; exact decide_eq_true (by omega), Nat.zero_le _, Nat.zero_le _⟩
theorem Nc.mono {k l : Nat} {w : W} (h : Nc k w) (hl : k ≤ l) : Nc l w := ⟨h.pl, h.sm, h.dp, Nat.le_trans h.bk hl⟩
theorem ncs_pl {k : Nat} : ∀ {ws : List W}, (∀ w ∈ ws, Nc k w) → pls ws = true
  | [], _ => rfl
  | w :: ws, h => by unfold pls; rw [(h w List.mem_cons_self).pl, ncs_pl fun x hx => h x (List.mem_cons_of_mem _ hx)]; rfl
theorem ncs_sm {k : Nat} : ∀ {ws : List W}, (∀ w ∈ ws, Nc k w) → smWs ws = true
  | [], _ => rfl
  | w :: ws, h => by unfold smWs; rw [(h w List.mem_cons_self).sm, ncs_sm fun x hx => h x (List.mem_cons_of_mem _ hx)]; rfl
theorem ncs_bk {k : Nat} : ∀ {ws : List W}, (∀ w ∈ ws, Nc k w) → bkWs ws ≤ (k + 1) * ws.length
  | [], _ => Nat.le_refl _
  | w :: ws, h => by
    unfold bkWs
    have h1 := (h w List.mem_cons_self).bk
    have h2 := ncs_bk fun x hx => h x (List.mem_cons_of_mem _ hx)
    rw [List.length_cons, Nat.mul_succ]
    omega
theorem ncs_dp {k d : Nat} {ws : List W} (h : ∀ w ∈ ws, Nc k w) (hd : ∀ w ∈ ws, dpW w ≤ d) : dpWs ws ≤ d := dps_le hd
theorem fRepr_lst {M : Mh} {p : Addr} {xs : List W} {R : MK} (hp : M p = some (.lst xs)) (h : ∀ w ∈ xs, Nc 63 w) (hl : xs.length ≤ 10000) (k : R (.str (PyData.list (dWs xs)).shown) M) : fRepr [.ref p] M R := by
  have e : dat M 8 (.ref p) = some (.list (dWs xs)) := by
    unfold dat
    rw [hp]
    simp only [dats_pl M 7 xs (ncs_pl h), Option.map_some]
  have e2 : datC M (.ref p) = some (.list (dWs xs)) := e
  have lay : (PyData.list (dWs xs)).canLay0 = true := lays_pl xs (ncs_pl h)
  show match datC M (.ref p) with
    | some d => d.showable = true ∧ d.hasDict = false ∧ d.depth ≤ 64 ∧ d.shown.length ≤ sizeLine ∧ R (.str d.shown) M
    | none => False
  rw [e2]
  refine ⟨showables_dW xs (ncs_sm h), PyData.hasDict_of_canLay _ lay, ?_, ?_, k⟩
  · have := dps_le fun w hw => (h w hw).dp
    have h2 := dps_dW xs
    have : (PyData.list (dWs xs)).depth = PyData.depthAll (dWs xs) + 1 := rfl
    omega
  · refine PyData.shown_fits_bulk (B := 13) (by decide) (by decide) (PyData.leavesShort_of_canLay0 13 _ lay (shorts_dW xs (ncs_sm h))) ?_
    have : (PyData.list (dWs xs)).bulk = PyData.bulkAll (dWs xs) := rfl
    rw [this, bulks_dW]
    have := ncs_bk h
    omega
theorem fRepr_tup {M : Mh} {xs : List W} {R : MK} (h : Nc 1000000 (.tup xs)) (k : R (.str (dW (.tup xs)).shown) M) : fRepr [.tup xs] M R := by
  have e2 : datC M (.tup xs) = some (dW (.tup xs)) := dat_pl M 8 _ h.pl
  have lay : (dW (.tup xs)).canLay0 = true := lay_pl _ h.pl
  show match datC M (.tup xs) with
    | some d => d.showable = true ∧ d.hasDict = false ∧ d.depth ≤ 64 ∧ d.shown.length ≤ sizeLine ∧ R (.str d.shown) M
    | none => False
  rw [e2]
  refine ⟨showable_dW _ h.sm, PyData.hasDict_of_canLay _ lay, ?_, ?_, k⟩
  · have := dp_dW (.tup xs)
    have := h.dp
    omega
  · refine PyData.shown_fits_bulk (B := 13) (by decide) (by decide) (PyData.leavesShort_of_canLay0 13 _ lay (short_dW _ h.sm)) ?_
    rw [bulk_dW]
    have := h.bk
    omega
theorem fNe_same {M : Mh} {a b : Str} {R : MK} (h : a = b) (k : R (.bl false) M) : fNe (.str a) (.str b) M R := by
  subst h
  have : fNe (.str a) (.str a) M R = R (.bl (!decide (a = a))) M := rfl
  rw [this, decide_eq_true rfl]
  exact k
theorem fEq_same {M : Mh} {a b : Str} {R : MK} (h : a = b) (k : R (.bl true) M) : fEq (.str a) (.str b) M R := by
  subst h
  have : fEq (.str a) (.str a) M R = R (.bl (decide (a = a))) M := rfl
  rw [this, decide_eq_true rfl]
  exact k
theorem lcL_ind {G : Mh → Prop} {tg : Tg} {mt : MT} {me : ME} {e0 : MEnv} {F : List W → Mh → Prop} (I : Nat → List W → Mh → Prop) : ∀ (ws : List W) (n : Nat) (acc : List W) (M : Mh), I n acc M →
    (∀ (i : Nat) (w : W) (acc : List W) (M : Mh) (k : List W → Mh → Prop), ws[i]? = some w → I (n + i) acc M → (∀ acc' M', I (n + i + 1) acc' M' → k acc' M') → G M ∧ ∃ e1, bindT tg w e0 = some e1 ∧ mt noX e1 M fun c M1 => if c = true then me noX e1 M1 fun y M2 => k (acc ++ [y]) M2 else k acc M1) →
    (∀ acc M, I (n + ws.length) acc M → G M ∧ F acc M) → lcL G tg mt me e0 F ws acc M
  | [], n, acc, M, h, _, fin => fin acc M (by simpa using h)
  | w :: ws, n, acc, M, h, step, fin => by
    obtain ⟨g, e1, eb, hb⟩ := step 0 w acc M (lcL G tg mt me e0 F ws) rfl (by simpa using h) fun acc' M' h' =>
      lcL_ind I ws (n + 1) acc' M' (by simpa using h') (fun i w' a2 M2 k hw hi hk => step (i + 1) w' a2 M2 k (by simpa using hw) (by rw [show n + (i + 1) = n + 1 + i by omega]; exact hi) (by rw [show n + (i + 1) + 1 = n + 1 + i + 1 by omega]; exact hk))
        (fun a2 M2 hi => fin a2 M2 (by rw [List.length_cons, show n + (ws.length + 1) = n + 1 + ws.length by omega]; exact hi))
    refine ⟨g, ?_⟩
    rw [eb]
    exact hb
/-! ### a drawer goes on -/
def Lv (M : Mh) (s : Addr) (n : Nat) : Prop := ∃ m, n ≤ m ∧ M s = some (.drw m)
def Af (M : Mh) (s : Addr) (n : Nat) (M2 : Mh) : Prop := ∃ m, n ≤ m ∧ M2 = updM M s (.drw m)
def Go (M : Mh) (s : Addr) (n : Nat) (M2 : Mh) : Prop := ∃ m, n ≤ m ∧ Sub (updM M s (.drw m)) M2
theorem Lv.mono {M : Mh} {s : Addr} {n m : Nat} (h : Lv M s n) (k : m ≤ n) : Lv M s m := by
  obtain ⟨a, b, c⟩ := h; exact ⟨a, by omega, c⟩
theorem Af.mono {M M2 : Mh} {s : Addr} {n m : Nat} (h : Af M s n M2) (k : m ≤ n) : Af M s m M2 := by
  obtain ⟨a, b, c⟩ := h; exact ⟨a, by omega, c⟩
theorem Go.mono {M M2 : Mh} {s : Addr} {n m : Nat} (h : Go M s n M2) (k : m ≤ n) : Go M s m M2 := by
  obtain ⟨a, b, c⟩ := h; exact ⟨a, by omega, c⟩
theorem upd_self {M : Mh} {s : Addr} {o : MO} (h : M s = some o) : updM M s o = M := by
  funext a
  by_cases z : a = s
  · subst z; rw [updM_same, h]
  · rw [updM_ne z]
theorem Lv.go {M : Mh} {s : Addr} {n : Nat} (h : Lv M s n) : Go M s n M := by
  obtain ⟨m, a, b⟩ := h
  exact ⟨m, a, by rw [upd_self b]; exact Sub.refl⟩
theorem Go.lv {M M2 : Mh} {s : Addr} {n : Nat} (h : Go M s n M2) : Lv M2 s n := by
  obtain ⟨m, a, b⟩ := h
  exact ⟨m, a, sub_at b⟩
theorem Go.new {M M2 : Mh} {s p : Addr} {n : Nat} {o : MO} (h : Go M s n M2) (hp : M2 p = none) : Go M s n (updM M2 p o) := by
  obtain ⟨m, a, b⟩ := h
  exact ⟨m, a, b.new hp⟩
theorem Go.af {M M2 M3 : Mh} {s : Addr} {n k : Nat} (h : Go M s n M2) (f : Af M2 s k M3) : Go M s k M3 := by
  obtain ⟨m, a, b⟩ := h
  obtain ⟨u, c, rfl⟩ := f
  exact ⟨u, c, sub_set b⟩
theorem Go.set {M M2 : Mh} {s p : Addr} {n : Nat} {o : MO} (h : Go M s n M2) (hp : M p = none) (ps : p ≠ s) : Go M s n (updM M2 p o) := by
  obtain ⟨m, a, b⟩ := h
  refine ⟨m, a, fun c u e => ?_⟩
  have : c ≠ p := fun z => by
    subst z
    rw [updM_ne ps, hp] at e
    cases e
  rw [updM_ne this]
  exact b c u e
theorem Go.free {M M2 : Mh} {s p : Addr} {n : Nat} (h : Go M s n M2) (hp : M2 p = none) : M p = none ∧ p ≠ s := by
  obtain ⟨m, a, b⟩ := h
  have h1 := free_sub b hp
  have h2 : p ≠ s := fun z => by subst z; rw [updM_same] at h1; cases h1
  rw [updM_ne h2] at h1
  exact ⟨h1, h2⟩
theorem Go.close {M M2 : Mh} {s : Addr} {n : Nat} {R : MK} {w : W} (h : Go M s n M2) (k : ∀ M3, Af M s n M3 → R w M3) : fg R w M2 := by
  obtain ⟨m, a, b⟩ := h
  exact ⟨_, b, k _ ⟨m, a, rfl⟩⟩
/-- a fresh thing goes out, too -/
theorem Go.closeN {M M2 : Mh} {s p : Addr} {n : Nat} {R : MK} {o : MO} (h : Go M s n M2) (hp : M p = none) (ps : p ≠ s) (e : M2 p = some o) (k : ∀ M3, Af M s n M3 → M3 p = none → R (.ref p) (updM M3 p o)) : fg R (.ref p) M2 := by
  obtain ⟨m, a, b⟩ := h
  refine ⟨_, fun c u hc => ?_, k _ ⟨m, a, rfl⟩ (by rw [updM_ne ps]; exact hp)⟩
  by_cases z : c = p
  · subst z; rw [updM_same] at hc; rw [e]; exact hc
  · rw [updM_ne z] at hc; exact b c u hc
theorem Af.ne {M M2 : Mh} {s p : Addr} {n : Nat} (h : Af M s n M2) (ps : p ≠ s) : M2 p = M p := by
  obtain ⟨m, _, rfl⟩ := h
  exact updM_ne ps
theorem Af.lv {M M2 : Mh} {s : Addr} {n : Nat} (h : Af M s n M2) : Lv M2 s n := by
  obtain ⟨m, a, rfl⟩ := h
  exact ⟨m, a, updM_same⟩
theorem Lv.new {M : Mh} {s p : Addr} {n : Nat} {o : MO} (h : Lv M s n) (hp : M p = none) : Lv (updM M p o) s n := by
  obtain ⟨m, a, b⟩ := h
  exact ⟨m, a, by rw [updM_ne (ne_of_noneM b hp)]; exact b⟩
theorem Lv.ne {M : Mh} {s p : Addr} {n : Nat} (h : Lv M s n) (hp : M p = none) : p ≠ s := by
  obtain ⟨m, a, b⟩ := h
  exact fun z => by subst z; rw [hp] at b; cases b
end ML


set_option Elab.async false
set_option linter.all false
set_option maxRecDepth 100000
set_option maxHeartbeats 8000000
namespace K75
open PySem PySem.Spec PyProof.Rows L2 ML

abbrev top (i : Nat) : Stmt := PySem.Challenge.pw_hueward_k75_stretches_and_exchanges.main.body.getD i (.Pass ⟨0, 0, 0, 0⟩)
/-- the addresses: classes of errors, tables of code objects -/
structure Ads where
  HueError : Addr
  BadCode : Addr
  BadHue : Addr
  BadAddress : Addr
  NotSchedule : Addr
  P_sorted_code : Addr
  P__law_mk_ordered : Addr
  P__law_mk_refused_right : Addr
  P_law : Addr
  C_sorted_code : Addr
  C__law_mk_ordered : Addr
  C__law_mk_refused_right : Addr
  C_law : Addr
def Ads.ok (q : Ads) (C : Addr) : Prop := C = q.BadCode ∨ C = q.BadHue ∨ C = q.BadAddress ∨ C = q.NotSchedule
def lamQ (x : Str) : Str := x ++ ".<locals>." ++ "<lambda>"
def tT (q : Ads) : List (Addr × Str) := [(q.P_sorted_code, lamQ "sorted_code"), (q.P__law_mk_ordered, lamQ "_law_mk_ordered"), (q.P__law_mk_refused_right, lamQ "_law_mk_refused_right"), (q.P_law, lamQ "law")]
def wTWOS : W := .tup [.str "plus", .str "minus", .str "times", .str "rest", .str "less", .str "same"]
/-- what the top has written -/
structure Txt (K : PySem.W.Frag) (mg : Str → Option Value) (base : Heap) (q : Ads) where
  d_is_whole : Df K mg "is_whole" (top 11) ["value"]
  d_is_from : Df K mg "is_from" (top 12) ["value", "low", "high"]
  d_is_votes : Df K mg "is_votes" (top 18) ["value"]
  d_are_registers : Df K mg "are_registers" (top 19) ["values"]
  d_instruction_fits : Df K mg "instruction_fits" (top 20) ["value", "hue", "size", "many"]
  d_settle_fits : Df K mg "settle_fits" (top 21) ["value", "hues", "many"]
  d_is_settle : Df K mg "is_settle" (top 22) ["cell"]
  d_cell_fits : Df K mg "cell_fits" (top 23) ["value", "hues", "size", "many", "bank"]
  d_is_code : Df K mg "is_code" (top 24) ["value"]
  d_need_code : Df K mg "need_code" (top 25) ["code"]
  d_need_hue : Df K mg "need_hue" (top 26) ["code", "hue"]
  d_need_address : Df K mg "need_address" (top 27) ["code", "address"]
  d_own_cells : Df K mg "own_cells" (top 28) ["code", "hue"]
  d_instructions : Df K mg "instructions" (top 29) ["code", "hue"]
  d_label_lot : Df K mg "label_lot" (top 31) ["cells"]
  d_labels_of : Df K mg "labels_of" (top 32) ["code"]
  d_stretch_list : Df K mg "stretch_list" (top 33) ["code"]
  d_stretches : Df K mg "stretches" (top 34) ["code"]
  d_exchange_spots : Df K mg "exchange_spots" (top 35) ["code"]
  d_exchangeable : Df K mg "exchangeable" (top 36) ["code"]
  d_with_cells : Df K mg "with_cells" (top 37) ["code", "cells"]
  d_exchanged : Df K mg "exchanged" (top 38) ["code", "address"]
  d_sorted_code : Df K mg "sorted_code" (top 39) ["code"]
  d_is_schedule : Df K mg "is_schedule" (top 40) ["code", "value"]
  d_need_schedule : Df K mg "need_schedule" (top 41) ["code", "other"]
  d_nth_of : Df K mg "nth_of" (top 42) ["cells", "first", "end", "hue", "count"]
  d_own_ahead : Df K mg "own_ahead" (top 43) ["cells", "first", "at", "hue"]
  d_moved_spot : Df K mg "moved_spot" (top 44) ["code", "other", "address"]
  d_moved_address : Df K mg "moved_address" (top 45) ["code", "other", "address"]
  d__law_begun : Df K mg "_law_begun" (top 47) ["_law_script"]
  d__law_mixed : Df K mg "_law_mixed" (top 48) ["_law_state"]
  d__law_draw : Df K mg "_law_draw" (top 49) ["_law_state", "_law_room"]
  d__law_pick : Df K mg "_law_pick" (top 50) ["_law_state", "_law_some"]
  d__law_caught : Df K mg "_law_caught" (top 51) ["_law_action"]
  d__law_number : Df K mg "_law_number" (top 52) ["_law_state", "_law_size_here"]
  d__law_size : Df K mg "_law_size" (top 53) ["_law_state"]
  d__law_votes : Df K mg "_law_votes" (top 54) ["_law_state"]
  d__law_two_words : Df K mg "_law_two_words" (top 55) []
  d__law_plain_step : Df K mg "_law_plain_step" (top 56) ["_law_state", "_law_size_here", "_law_bank"]
  d__law_laid : Df K mg "_law_laid" (top 57) ["_law_state", "_law_hues", "_law_steps"]
  d__law_code_blocks : Df K mg "_law_code_blocks" (top 58) ["_law_state", "_law_blocks"]
  d__law_sure_code : Df K mg "_law_sure_code" (top 59) ["_law_state", "_law_votes_here", "_law_size_here"]
  d__law_mk_cell : Df K mg "_law_mk_cell" (top 60) ["_law_state", "_law_hues", "_law_size_here", "_law_bank", "_law_many"]
  d__law_mk_any_code : Df K mg "_law_mk_any_code" (top 61) ["_law_state"]
  d__law_mk_bent : Df K mg "_law_mk_bent" (top 62) ["_law_state", "_law_code"]
  d__law_mk_sure : Df K mg "_law_mk_sure" (top 63) ["_law_state", "_law_votes_here"]
  d__law_mk_code : Df K mg "_law_mk_code" (top 64) ["_law_state"]
  d__law_mk_labels : Df K mg "_law_mk_labels" (top 65) ["_law_cells"]
  d__law_mk_stretches : Df K mg "_law_mk_stretches" (top 66) ["_law_cells"]
  d__law_mk_swaps : Df K mg "_law_mk_swaps" (top 67) ["_law_cells"]
  d__law_mk_swapped : Df K mg "_law_mk_swapped" (top 68) ["_law_code", "_law_at"]
  d__law_mk_ordered : Df K mg "_law_mk_ordered" (top 69) ["_law_code"]
  d__law_mk_no_schedules : Df K mg "_law_mk_no_schedules" (top 70) ["_law_state", "_law_code"]
  d__law_mk_own_told : Df K mg "_law_mk_own_told" (top 71) ["_law_code", "_law_hue"]
  d__law_mk_lists_right : Df K mg "_law_mk_lists_right" (top 72) ["_law_code"]
  d__law_mk_exchanges_right : Df K mg "_law_mk_exchanges_right" (top 73) ["_law_state", "_law_code"]
  d__law_mk_refused_right : Df K mg "_law_mk_refused_right" (top 74) ["_law_state", "_law_code"]
  d_law : Df K mg "law" (top 75) ["_law_script"]
  n_abs : mg "abs" = none
  n_bool : mg "bool" = none
  n_enumerate : mg "enumerate" = none
  n_int : mg "int" = none
  n_isinstance : mg "isinstance" = none
  n_len : mg "len" = none
  n_list : mg "list" = none
  n_max : mg "max" = none
  n_min : mg "min" = none
  n_range : mg "range" = none
  n_repr : mg "repr" = none
  n_sorted : mg "sorted" = none
  n_str : mg "str" = none
  n_tuple : mg "tuple" = none
  g_LEAST_SIZE : ∃ u, mg "LEAST_SIZE" = some (.int 2 u)
  g_MANY_REGISTERS : ∃ u, mg "MANY_REGISTERS" = some (.int 8 u)
  g_MOST_BANK : ∃ u, mg "MOST_BANK" = some (.int 600 u)
  g_MOST_CELLS : ∃ u, mg "MOST_CELLS" = some (.int 4000 u)
  g_MOST_HUES : ∃ u, mg "MOST_HUES" = some (.int 5 u)
  g_MOST_PORT : ∃ u, mg "MOST_PORT" = some (.int 5 u)
  g_MOST_SIZE : ∃ u, mg "MOST_SIZE" = some (.int 10000 u)
  g_TWOS : ∃ p, mg "TWOS" = some (.ref p) ∧ ∀ H, Rep K H wTWOS (.ref p)
  e_HueError : ErrC K mg "HueError" q.HueError q.HueError
  e_BadCode : ErrC K mg "BadCode" q.BadCode q.HueError
  e_BadHue : ErrC K mg "BadHue" q.BadHue q.HueError
  e_BadAddress : ErrC K mg "BadAddress" q.BadAddress q.HueError
  e_NotSchedule : ErrC K mg "NotSchedule" q.NotSchedule q.HueError
  tb_sorted_code : LamX.TabB base mg q.C_sorted_code q.P_sorted_code
  c_sorted_code : d_sorted_code.cdv = .ref q.C_sorted_code
  tb__law_mk_ordered : LamX.TabB base mg q.C__law_mk_ordered q.P__law_mk_ordered
  c__law_mk_ordered : d__law_mk_ordered.cdv = .ref q.C__law_mk_ordered
  tb__law_mk_refused_right : LamX.TabB base mg q.C__law_mk_refused_right q.P__law_mk_refused_right
  c__law_mk_refused_right : d__law_mk_refused_right.cdv = .ref q.C__law_mk_refused_right
  tb_law : LamX.TabB base mg q.C_law q.P_law
  c_law : d_law.cdv = .ref q.C_law
  pn : [q.P_sorted_code, q.P__law_mk_ordered, q.P__law_mk_refused_right, q.P_law].Nodup
section
variable {P : Program} {w : World} {K : PySem.W.Frag} {mg : Str → Option Value} {base : Heap} {q : Ads}
theorem Txt.oks (t : Txt K mg base q) : ∀ C, q.ok C → PySem.W.exmOne K (.ref C) (.ref q.HueError) = some true := by
  rintro C (rfl | rfl | rfl | rfl)
  · exact t.e_BadCode.em
  · exact t.e_BadHue.em
  · exact t.e_BadAddress.em
  · exact t.e_NotSchedule.em
theorem mT_sorted_code (q : Ads) : (q.P_sorted_code, lamQ "sorted_code") ∈ tT q := .head _
theorem uT_sorted_code (t : Txt K mg base q) : ∀ p ∈ tT q, p.1 = q.P_sorted_code → p.2 = lamQ "sorted_code" := nodup_look (show ((tT q).map Prod.fst).Nodup from t.pn) (mT_sorted_code q)
theorem mT__law_mk_ordered (q : Ads) : (q.P__law_mk_ordered, lamQ "_law_mk_ordered") ∈ tT q := .tail _ (.head _)
theorem uT__law_mk_ordered (t : Txt K mg base q) : ∀ p ∈ tT q, p.1 = q.P__law_mk_ordered → p.2 = lamQ "_law_mk_ordered" := nodup_look (show ((tT q).map Prod.fst).Nodup from t.pn) (mT__law_mk_ordered q)
theorem mT__law_mk_refused_right (q : Ads) : (q.P__law_mk_refused_right, lamQ "_law_mk_refused_right") ∈ tT q := .tail _ (.tail _ (.head _))
theorem uT__law_mk_refused_right (t : Txt K mg base q) : ∀ p ∈ tT q, p.1 = q.P__law_mk_refused_right → p.2 = lamQ "_law_mk_refused_right" := nodup_look (show ((tT q).map Prod.fst).Nodup from t.pn) (mT__law_mk_refused_right q)
theorem mT_law (q : Ads) : (q.P_law, lamQ "law") ∈ tT q := .tail _ (.tail _ (.tail _ (.head _)))
theorem uT_law (t : Txt K mg base q) : ∀ p ∈ tT q, p.1 = q.P_law → p.2 = lamQ "law" := nodup_look (show ((tT q).map Prod.fst).Nodup from t.pn) (mT_law q)
theorem u65 {k : Nat} {A : Around} (h : Room k A) : A.units + 65 < cLine := by have := h.un; omega
theorem ex_is_whole : ∃ f : Ads → MSp, f = fun q => mDef 1 (mRet (mAndV (mIsi .int (mVar 0)) (mNotV (mIsi .bl (mVar 0))))) := ⟨_, rfl⟩
noncomputable def sp_is_whole (q : Ads) : MSp := ex_is_whole.choose q
theorem un_is_whole (q : Ads) : sp_is_whole q = mDef 1 (mRet (mAndV (mIsi .int (mVar 0)) (mNotV (mIsi .bl (mVar 0))))) := congrFun ex_is_whole.choose_spec q
abbrev N_is_whole : List Str := ["value"]
theorem sc_is_whole : FnScope N_is_whole ["value"] (defScope (top 11)) := ⟨rfl, rfl, rfl, by decide +kernel, rfl, by decide +kernel, by decide +kernel⟩
theorem ok_is_whole (t : Txt K mg base q) : FnG P w K mg base (tT q) false 1 t.d_is_whole.f t.d_is_whole.fd ["value"] 1 (sp_is_whole q) := by
  rw [un_is_whole]
  exact t.d_is_whole.ok sc_is_whole rfl fun A outer s H E hr gA =>
    mss_one (ms_ret (me_and (me_isi .int t.n_isinstance t.n_int (me_var 0)) (me_one (me_not (me_isi .bl t.n_isinstance t.n_bool (me_var 0))))))
theorem ex_is_from : ∃ f : Ads → MSp, f = fun q => mDef 3 (mRet (mAndV (mCall (sp_is_whole q) [mVar 0]) (mChain fLe fLe (mVar 1) (mVar 0) (mVar 2)))) := ⟨_, rfl⟩
noncomputable def sp_is_from (q : Ads) : MSp := ex_is_from.choose q
theorem un_is_from (q : Ads) : sp_is_from q = mDef 3 (mRet (mAndV (mCall (sp_is_whole q) [mVar 0]) (mChain fLe fLe (mVar 1) (mVar 0) (mVar 2)))) := congrFun ex_is_from.choose_spec q
abbrev N_is_from : List Str := ["value", "low", "high"]
theorem sc_is_from : FnScope N_is_from ["value", "low", "high"] (defScope (top 12)) := ⟨rfl, rfl, rfl, by decide +kernel, rfl, by decide +kernel, by decide +kernel⟩
theorem ok_is_from (t : Txt K mg base q) : FnG P w K mg base (tT q) false 2 t.d_is_from.f t.d_is_from.fd ["value", "low", "high"] 3 (sp_is_from q) := by
  rw [un_is_from]
  exact t.d_is_from.ok sc_is_from rfl fun A outer s H E hr gA =>
    mss_one (ms_ret (me_and (me_call (ok_is_whole t) (hr.mono (by decide)) (fun h => nomatch h) t.d_is_whole.m t.d_is_whole.k t.d_is_whole.b (takes_of rfl rfl rfl rfl) (ma_cons (me_var 0) (ma_nil))) (me_one (me_chain op_le mo_le op_le mo_le (me_var 1) (me_var 0) (me_var 2)))))
theorem ex_is_votes : ∃ f : Ads → MSp, f = fun q => mDef 3 (mSeq (mIfS (mOr (mNot (mVal (mIsi .tup (mVar 0)))) (mNot (mVal (mChain fLe fLe (mC (.int 1)) (mFn fLen [mVar 0]) (mC (.int 5)))))) (mRet (mC (.bl false))) (mNext)) (mSeq (mFor (miEnum 1 (mVar 0)) (.tp [1, 2]) (mIfS (mOr (mNot (mVal (mCall (sp_is_whole q) [mVar 2]))) (mNot (mVal (mChain fLt fLe (mVar 1) (mOp fMul (mC (.int 2)) (mVar 2)) (mOp fMul (mC (.int 2)) (mVar 1)))))) (mRet (mC (.bl false))) (mNext))) (mRet (mC (.bl true))))) := ⟨_, rfl⟩
noncomputable def sp_is_votes (q : Ads) : MSp := ex_is_votes.choose q
theorem un_is_votes (q : Ads) : sp_is_votes q = mDef 3 (mSeq (mIfS (mOr (mNot (mVal (mIsi .tup (mVar 0)))) (mNot (mVal (mChain fLe fLe (mC (.int 1)) (mFn fLen [mVar 0]) (mC (.int 5)))))) (mRet (mC (.bl false))) (mNext)) (mSeq (mFor (miEnum 1 (mVar 0)) (.tp [1, 2]) (mIfS (mOr (mNot (mVal (mCall (sp_is_whole q) [mVar 2]))) (mNot (mVal (mChain fLt fLe (mVar 1) (mOp fMul (mC (.int 2)) (mVar 2)) (mOp fMul (mC (.int 2)) (mVar 1)))))) (mRet (mC (.bl false))) (mNext))) (mRet (mC (.bl true))))) := congrFun ex_is_votes.choose_spec q
abbrev N_is_votes : List Str := ["value", "width", "need"]
theorem sc_is_votes : FnScope N_is_votes ["value"] (defScope (top 18)) := ⟨rfl, rfl, rfl, by decide +kernel, rfl, by decide +kernel, by decide +kernel⟩
theorem ok_is_votes (t : Txt K mg base q) : FnG P w K mg base (tT q) false 2 t.d_is_votes.f t.d_is_votes.fd ["value"] 1 (sp_is_votes q) := by
  rw [un_is_votes]
  exact t.d_is_votes.ok sc_is_votes rfl fun A outer s H E hr gA =>
    mss_cons (ms_if (mt_bool (mw_or (mt_not (mt_val (me_isi .tup t.n_isinstance t.n_tuple (me_var 0)))) (mw_or1 (mt_not (mt_chain op_le mo_le op_le mo_le (me_int) (me_fnB call_lenM mf_len t.n_len (by decide +kernel) (ma_cons (me_var 0) (ma_nil))) (me_gint t.g_MOST_HUES)))))) (mss_one (ms_ret (me_bl))) (mss_nil)) (mss_cons (ms_for (passes_of rfl) rfl (mi_enum2 t.n_enumerate (me_var 0)) (pg_tup rfl (pgs_cons (pg_name (i := 1) sc_is_votes.nd rfl (by first | exact Or.inl rfl | exact Or.inr rfl)) (pgs_cons (pg_name (i := 2) sc_is_votes.nd rfl (by first | exact Or.inl rfl | exact Or.inr rfl)) (pgs_nil)))) (gok_tp [1, 2] rfl) (mss_one (ms_if (mt_bool (mw_or (mt_not (mt_val (me_call (ok_is_whole t) (hr.mono (by decide)) (fun h => nomatch h) t.d_is_whole.m t.d_is_whole.k t.d_is_whole.b (takes_of rfl rfl rfl rfl) (ma_cons (me_var 2) (ma_nil))))) (mw_or1 (mt_not (mt_chain op_lt mo_lt op_le mo_le (me_var 1) (me_op op_mul mo_mul (me_int) (me_var 2)) (me_op op_mul mo_mul (me_int) (me_var 1))))))) (mss_one (ms_ret (me_bl))) (mss_nil)))) (mss_one (ms_ret (me_bl))))
theorem ex_are_registers : ∃ f : Ads → MSp, f = fun q => mDef 2 (mRet (mOp fEq (mLc (miSeq (mVar 0)) (.nm 1) (mNot (mVal (mCall (sp_is_from q) [mVar 1, mC (.int 0), mOp fSub (mC (.int 8)) (mC (.int 1))]))) (mVar 1) [1]) (mLst []))) := ⟨_, rfl⟩
noncomputable def sp_are_registers (q : Ads) : MSp := ex_are_registers.choose q
theorem un_are_registers (q : Ads) : sp_are_registers q = mDef 2 (mRet (mOp fEq (mLc (miSeq (mVar 0)) (.nm 1) (mNot (mVal (mCall (sp_is_from q) [mVar 1, mC (.int 0), mOp fSub (mC (.int 8)) (mC (.int 1))]))) (mVar 1) [1]) (mLst []))) := congrFun ex_are_registers.choose_spec q
abbrev N_are_registers : List Str := ["values", "one"]
theorem sc_are_registers : FnScope N_are_registers ["values"] (defScope (top 19)) := ⟨rfl, rfl, rfl, by decide +kernel, rfl, by decide +kernel, by decide +kernel⟩
theorem ok_are_registers (t : Txt K mg base q) : FnG P w K mg base (tT q) false 3 t.d_are_registers.f t.d_are_registers.fd ["values"] 1 (sp_are_registers q) := by
  rw [un_are_registers]
  exact t.d_are_registers.ok sc_are_registers rfl fun A outer s H E hr gA =>
    mss_one (ms_ret (me_cmp (op_eqM (u64 hr)) mo_eq (me_lcI (own := [("one", 1)]) rfl sc_are_registers.nd (mi_seq (me_var 0)) (gow_nm 1) (blkOk_by (N := N_are_registers) (sc := defScope (top 19)) (by decide +kernel)) (fun _ _ _ _ _ => pg_name (i := 1) sc_are_registers.nd rfl (by first | exact Or.inl rfl | exact Or.inr rfl)) (fun _ _ _ _ _ => mt_not (mt_val (me_call (ok_is_from t) (hr.mono (by decide)) (fun h => nomatch h) t.d_is_from.m t.d_is_from.k t.d_is_from.b (LamX.takes0) (ma_cons (me_var 1) (ma_cons (me_int) (ma_cons (me_op op_sub mo_sub (me_gint t.g_MANY_REGISTERS) (me_int)) (ma_nil))))))) (fun _ _ _ _ _ => me_var 1)) (me_lst (ma_nil))))
theorem ex_instruction_fits : ∃ f : Ads → MSp, f = fun q => mDef 5 (mSeq (mIfS (mOr (mNot (mVal (mIsi .tup (mVar 0)))) (mOr (mVal (mOp fLt (mFn fLen [mVar 0]) (mC (.int 3)))) (mNot (mVal (mCall (sp_is_from q) [mOp fIx (mVar 0) (mC (.int 0)), mVar 1, mVar 1]))))) (mRet (mC (.bl false))) (mNext)) (mSeq (mIfS (mNot (mVal (mIsi .str (mOp fIx (mVar 0) (mC (.int 1)))))) (mRet (mC (.bl false))) (mNext)) (mSeq (mAsg (mOp fIx (mVar 0) (mC (.int 1))) (.nm 4)) (mSeq (mIfS (mVal (mOp fEq (mVar 4) (mC (.str "set")))) (mRet (mAndV (mOp fEq (mFn fLen [mVar 0]) (mC (.int 4))) (mAndV (mCall (sp_are_registers q) [mSl (mVar 0) (some (mC (.int 2))) (some (mC (.int 3)))]) (mCall (sp_is_from q) [mOp fIx (mVar 0) (mC (.int 3)), mC (.int 0), mOp fSub (mVar 2) (mC (.int 1))])))) (mNext)) (mSeq (mIfS (mVal (mOp fEq (mVar 4) (mC (.str "offer")))) (mRet (mAndV (mOp fEq (mFn fLen [mVar 0]) (mC (.int 3))) (mCall (sp_are_registers q) [mSl (mVar 0) (some (mC (.int 2))) none]))) (mNext)) (mSeq (mIfS (mVal (mOp fIn (mVar 4) (mTup [mC (.str "get"), mC (.str "put")]))) (mSeq (mIfS (mOr (mVal (mOp fNe (mFn fLen [mVar 0]) (mC (.int 6)))) (mNot (mVal (mCall (sp_are_registers q) [mSl (mVar 0) (some (mC (.int 2))) (some (mC (.int 4)))])))) (mRet (mC (.bl false))) (mNext)) (mRet (mAndV (mCall (sp_is_from q) [mOp fIx (mVar 0) (mC (.int 4)), mC (.int 0), mVar 3]) (mCall (sp_is_from q) [mOp fIx (mVar 0) (mC (.int 5)), mC (.int 1), mOp fSub (mVar 3) (mOp fIx (mVar 0) (mC (.int 4)))])))) (mNext)) (mRet (mAndV (mOp fIn (mVar 4) (mC wTWOS)) (mAndV (mOp fEq (mFn fLen [mVar 0]) (mC (.int 5))) (mCall (sp_are_registers q) [mSl (mVar 0) (some (mC (.int 2))) none])))))))))) := ⟨_, rfl⟩
noncomputable def sp_instruction_fits (q : Ads) : MSp := ex_instruction_fits.choose q
theorem un_instruction_fits (q : Ads) : sp_instruction_fits q = mDef 5 (mSeq (mIfS (mOr (mNot (mVal (mIsi .tup (mVar 0)))) (mOr (mVal (mOp fLt (mFn fLen [mVar 0]) (mC (.int 3)))) (mNot (mVal (mCall (sp_is_from q) [mOp fIx (mVar 0) (mC (.int 0)), mVar 1, mVar 1]))))) (mRet (mC (.bl false))) (mNext)) (mSeq (mIfS (mNot (mVal (mIsi .str (mOp fIx (mVar 0) (mC (.int 1)))))) (mRet (mC (.bl false))) (mNext)) (mSeq (mAsg (mOp fIx (mVar 0) (mC (.int 1))) (.nm 4)) (mSeq (mIfS (mVal (mOp fEq (mVar 4) (mC (.str "set")))) (mRet (mAndV (mOp fEq (mFn fLen [mVar 0]) (mC (.int 4))) (mAndV (mCall (sp_are_registers q) [mSl (mVar 0) (some (mC (.int 2))) (some (mC (.int 3)))]) (mCall (sp_is_from q) [mOp fIx (mVar 0) (mC (.int 3)), mC (.int 0), mOp fSub (mVar 2) (mC (.int 1))])))) (mNext)) (mSeq (mIfS (mVal (mOp fEq (mVar 4) (mC (.str "offer")))) (mRet (mAndV (mOp fEq (mFn fLen [mVar 0]) (mC (.int 3))) (mCall (sp_are_registers q) [mSl (mVar 0) (some (mC (.int 2))) none]))) (mNext)) (mSeq (mIfS (mVal (mOp fIn (mVar 4) (mTup [mC (.str "get"), mC (.str "put")]))) (mSeq (mIfS (mOr (mVal (mOp fNe (mFn fLen [mVar 0]) (mC (.int 6)))) (mNot (mVal (mCall (sp_are_registers q) [mSl (mVar 0) (some (mC (.int 2))) (some (mC (.int 4)))])))) (mRet (mC (.bl false))) (mNext)) (mRet (mAndV (mCall (sp_is_from q) [mOp fIx (mVar 0) (mC (.int 4)), mC (.int 0), mVar 3]) (mCall (sp_is_from q) [mOp fIx (mVar 0) (mC (.int 5)), mC (.int 1), mOp fSub (mVar 3) (mOp fIx (mVar 0) (mC (.int 4)))])))) (mNext)) (mRet (mAndV (mOp fIn (mVar 4) (mC wTWOS)) (mAndV (mOp fEq (mFn fLen [mVar 0]) (mC (.int 5))) (mCall (sp_are_registers q) [mSl (mVar 0) (some (mC (.int 2))) none])))))))))) := congrFun ex_instruction_fits.choose_spec q
abbrev N_instruction_fits : List Str := ["value", "hue", "size", "many", "word"]
theorem sc_instruction_fits : FnScope N_instruction_fits ["value", "hue", "size", "many"] (defScope (top 20)) := ⟨rfl, rfl, rfl, by decide +kernel, rfl, by decide +kernel, by decide +kernel⟩
theorem ok_instruction_fits (t : Txt K mg base q) : FnG P w K mg base (tT q) false 4 t.d_instruction_fits.f t.d_instruction_fits.fd ["value", "hue", "size", "many"] 4 (sp_instruction_fits q) := by
  rw [un_instruction_fits]
  exact t.d_instruction_fits.ok sc_instruction_fits rfl fun A outer s H E hr gA =>
    mss_cons (ms_if (mt_bool (mw_or (mt_not (mt_val (me_isi .tup t.n_isinstance t.n_tuple (me_var 0)))) (mw_or (mt_cmp op_lt mo_lt (me_fnB call_lenM mf_len t.n_len (by decide +kernel) (ma_cons (me_var 0) (ma_nil))) (me_int)) (mw_or1 (mt_not (mt_val (me_call (ok_is_from t) (hr.mono (by decide)) (fun h => nomatch h) t.d_is_from.m t.d_is_from.k t.d_is_from.b (takes_of rfl rfl rfl rfl) (ma_cons (me_ix (me_var 0) (me_int)) (ma_cons (me_var 1) (ma_cons (me_var 1) (ma_nil))))))))))) (mss_one (ms_ret (me_bl))) (mss_nil)) (mss_cons (ms_if (mt_not (mt_val (me_isi .str t.n_isinstance t.n_str (me_ix (me_var 0) (me_int))))) (mss_one (ms_ret (me_bl))) (mss_nil)) (mss_cons (ms_set 4 sc_instruction_fits.nd (me_ix (me_var 0) (me_int))) (mss_cons (ms_if (mt_cmp (op_eqM (u64 hr)) mo_eq (me_var 4) (me_str)) (mss_one (ms_ret (me_and (me_cmp (op_eqM (u64 hr)) mo_eq (me_fnB call_lenM mf_len t.n_len (by decide +kernel) (ma_cons (me_var 0) (ma_nil))) (me_int)) (me_and (me_call (ok_are_registers t) (hr.mono (by decide)) (fun h => nomatch h) t.d_are_registers.m t.d_are_registers.k t.d_are_registers.b (takes_of rfl rfl rfl rfl) (ma_cons (me_slice (me_var 0) (mo_some (me_int)) (mo_some (me_int))) (ma_nil))) (me_one (me_call (ok_is_from t) (hr.mono (by decide)) (fun h => nomatch h) t.d_is_from.m t.d_is_from.k t.d_is_from.b (takes_of rfl rfl rfl rfl) (ma_cons (me_ix (me_var 0) (me_int)) (ma_cons (me_int) (ma_cons (me_op op_sub mo_sub (me_var 2) (me_int)) (ma_nil)))))))))) (mss_nil)) (mss_cons (ms_if (mt_cmp (op_eqM (u64 hr)) mo_eq (me_var 4) (me_str)) (mss_one (ms_ret (me_and (me_cmp (op_eqM (u64 hr)) mo_eq (me_fnB call_lenM mf_len t.n_len (by decide +kernel) (ma_cons (me_var 0) (ma_nil))) (me_int)) (me_one (me_call (ok_are_registers t) (hr.mono (by decide)) (fun h => nomatch h) t.d_are_registers.m t.d_are_registers.k t.d_are_registers.b (takes_of rfl rfl rfl rfl) (ma_cons (me_slice (me_var 0) (mo_some (me_int)) mo_none) (ma_nil))))))) (mss_nil)) (mss_cons (ms_if (mt_cmp (op_inM (u64 hr)) mo_in (me_var 4) (me_tup (ma_cons (me_str) (ma_cons (me_str) (ma_nil))))) (mss_cons (ms_if (mt_bool (mw_or (mt_cmp (op_neM (u64 hr)) mo_ne (me_fnB call_lenM mf_len t.n_len (by decide +kernel) (ma_cons (me_var 0) (ma_nil))) (me_int)) (mw_or1 (mt_not (mt_val (me_call (ok_are_registers t) (hr.mono (by decide)) (fun h => nomatch h) t.d_are_registers.m t.d_are_registers.k t.d_are_registers.b (takes_of rfl rfl rfl rfl) (ma_cons (me_slice (me_var 0) (mo_some (me_int)) (mo_some (me_int))) (ma_nil)))))))) (mss_one (ms_ret (me_bl))) (mss_nil)) (mss_one (ms_ret (me_and (me_call (ok_is_from t) (hr.mono (by decide)) (fun h => nomatch h) t.d_is_from.m t.d_is_from.k t.d_is_from.b (takes_of rfl rfl rfl rfl) (ma_cons (me_ix (me_var 0) (me_int)) (ma_cons (me_int) (ma_cons (me_var 3) (ma_nil))))) (me_one (me_call (ok_is_from t) (hr.mono (by decide)) (fun h => nomatch h) t.d_is_from.m t.d_is_from.k t.d_is_from.b (takes_of rfl rfl rfl rfl) (ma_cons (me_ix (me_var 0) (me_int)) (ma_cons (me_int) (ma_cons (me_op op_sub mo_sub (me_var 3) (me_ix (me_var 0) (me_int))) (ma_nil)))))))))) (mss_nil)) (mss_one (ms_ret (me_and (me_cmp (op_inM (u64 hr)) mo_in (me_var 4) (me_gtup t.g_TWOS)) (me_and (me_cmp (op_eqM (u64 hr)) mo_eq (me_fnB call_lenM mf_len t.n_len (by decide +kernel) (ma_cons (me_var 0) (ma_nil))) (me_int)) (me_one (me_call (ok_are_registers t) (hr.mono (by decide)) (fun h => nomatch h) t.d_are_registers.m t.d_are_registers.k t.d_are_registers.b (takes_of rfl rfl rfl rfl) (ma_cons (me_slice (me_var 0) (mo_some (me_int)) mo_none) (ma_nil)))))))))))))
theorem ex_settle_fits : ∃ f : Ads → MSp, f = fun q => mDef 5 (mSeq (mIfS (mOr (mNot (mVal (mIsi .tup (mVar 0)))) (mOr (mVal (mOp fEq (mFn fLen [mVar 0]) (mC (.int 0)))) (mNot (mVal (mIsi .str (mOp fIx (mVar 0) (mC (.int 0)))))))) (mRet (mC (.bl false))) (mNext)) (mSeq (mAsg (mOp fIx (mVar 0) (mC (.int 0))) (.nm 3)) (mSeq (mIfS (mVal (mOp fIn (mVar 3) (mTup [mC (.str "stop"), mC (.str "mark")]))) (mRet (mOp fEq (mFn fLen [mVar 0]) (mC (.int 1)))) (mNext)) (mSeq (mIfS (mVal (mOp fEq (mVar 3) (mC (.str "goto")))) (mRet (mAndV (mOp fEq (mFn fLen [mVar 0]) (mC (.int 2))) (mCall (sp_is_from q) [mOp fIx (mVar 0) (mC (.int 1)), mC (.int 0), mOp fSub (mVar 2) (mC (.int 1))]))) (mNext)) (mSeq (mIfS (mOr (mVal (mOp fNotIn (mVar 3) (mTup [mC (.str "show"), mC (.str "turn"), mC (.str "take")]))) (mOr (mVal (mOp fNe (mFn fLen [mVar 0]) (mC (.int 3)))) (mNot (mVal (mCall (sp_is_from q) [mOp fIx (mVar 0) (mC (.int 2)), mC (.int 1), mVar 1]))))) (mRet (mC (.bl false))) (mNext)) (mSeq (mAsg (mDGet (mDict [(.inr "show", mC (.int 5)), (.inr "turn", mOp fSub (mVar 2) (mC (.int 1))), (.inr "take", mOp fSub (mC (.int 8)) (mC (.int 1)))]) (mVar 3)) (.nm 4)) (mRet (mCall (sp_is_from q) [mOp fIx (mVar 0) (mC (.int 1)), mC (.int 0), mVar 4])))))))) := ⟨_, rfl⟩
noncomputable def sp_settle_fits (q : Ads) : MSp := ex_settle_fits.choose q
theorem un_settle_fits (q : Ads) : sp_settle_fits q = mDef 5 (mSeq (mIfS (mOr (mNot (mVal (mIsi .tup (mVar 0)))) (mOr (mVal (mOp fEq (mFn fLen [mVar 0]) (mC (.int 0)))) (mNot (mVal (mIsi .str (mOp fIx (mVar 0) (mC (.int 0)))))))) (mRet (mC (.bl false))) (mNext)) (mSeq (mAsg (mOp fIx (mVar 0) (mC (.int 0))) (.nm 3)) (mSeq (mIfS (mVal (mOp fIn (mVar 3) (mTup [mC (.str "stop"), mC (.str "mark")]))) (mRet (mOp fEq (mFn fLen [mVar 0]) (mC (.int 1)))) (mNext)) (mSeq (mIfS (mVal (mOp fEq (mVar 3) (mC (.str "goto")))) (mRet (mAndV (mOp fEq (mFn fLen [mVar 0]) (mC (.int 2))) (mCall (sp_is_from q) [mOp fIx (mVar 0) (mC (.int 1)), mC (.int 0), mOp fSub (mVar 2) (mC (.int 1))]))) (mNext)) (mSeq (mIfS (mOr (mVal (mOp fNotIn (mVar 3) (mTup [mC (.str "show"), mC (.str "turn"), mC (.str "take")]))) (mOr (mVal (mOp fNe (mFn fLen [mVar 0]) (mC (.int 3)))) (mNot (mVal (mCall (sp_is_from q) [mOp fIx (mVar 0) (mC (.int 2)), mC (.int 1), mVar 1]))))) (mRet (mC (.bl false))) (mNext)) (mSeq (mAsg (mDGet (mDict [(.inr "show", mC (.int 5)), (.inr "turn", mOp fSub (mVar 2) (mC (.int 1))), (.inr "take", mOp fSub (mC (.int 8)) (mC (.int 1)))]) (mVar 3)) (.nm 4)) (mRet (mCall (sp_is_from q) [mOp fIx (mVar 0) (mC (.int 1)), mC (.int 0), mVar 4])))))))) := congrFun ex_settle_fits.choose_spec q
abbrev N_settle_fits : List Str := ["value", "hues", "many", "word", "most"]
theorem sc_settle_fits : FnScope N_settle_fits ["value", "hues", "many"] (defScope (top 21)) := ⟨rfl, rfl, rfl, by decide +kernel, rfl, by decide +kernel, by decide +kernel⟩
theorem ok_settle_fits (t : Txt K mg base q) : FnG P w K mg base (tT q) false 3 t.d_settle_fits.f t.d_settle_fits.fd ["value", "hues", "many"] 3 (sp_settle_fits q) := by
  rw [un_settle_fits]
  exact t.d_settle_fits.ok sc_settle_fits rfl fun A outer s H E hr gA =>
    mss_cons (ms_if (mt_bool (mw_or (mt_not (mt_val (me_isi .tup t.n_isinstance t.n_tuple (me_var 0)))) (mw_or (mt_cmp (op_eqM (u64 hr)) mo_eq (me_fnB call_lenM mf_len t.n_len (by decide +kernel) (ma_cons (me_var 0) (ma_nil))) (me_int)) (mw_or1 (mt_not (mt_val (me_isi .str t.n_isinstance t.n_str (me_ix (me_var 0) (me_int))))))))) (mss_one (ms_ret (me_bl))) (mss_nil)) (mss_cons (ms_set 3 sc_settle_fits.nd (me_ix (me_var 0) (me_int))) (mss_cons (ms_if (mt_cmp (op_inM (u64 hr)) mo_in (me_var 3) (me_tup (ma_cons (me_str) (ma_cons (me_str) (ma_nil))))) (mss_one (ms_ret (me_cmp (op_eqM (u64 hr)) mo_eq (me_fnB call_lenM mf_len t.n_len (by decide +kernel) (ma_cons (me_var 0) (ma_nil))) (me_int)))) (mss_nil)) (mss_cons (ms_if (mt_cmp (op_eqM (u64 hr)) mo_eq (me_var 3) (me_str)) (mss_one (ms_ret (me_and (me_cmp (op_eqM (u64 hr)) mo_eq (me_fnB call_lenM mf_len t.n_len (by decide +kernel) (ma_cons (me_var 0) (ma_nil))) (me_int)) (me_one (me_call (ok_is_from t) (hr.mono (by decide)) (fun h => nomatch h) t.d_is_from.m t.d_is_from.k t.d_is_from.b (takes_of rfl rfl rfl rfl) (ma_cons (me_ix (me_var 0) (me_int)) (ma_cons (me_int) (ma_cons (me_op op_sub mo_sub (me_var 2) (me_int)) (ma_nil))))))))) (mss_nil)) (mss_cons (ms_if (mt_bool (mw_or (mt_cmp (op_notInM (u64 hr)) mo_notIn (me_var 3) (me_tup (ma_cons (me_str) (ma_cons (me_str) (ma_cons (me_str) (ma_nil)))))) (mw_or (mt_cmp (op_neM (u64 hr)) mo_ne (me_fnB call_lenM mf_len t.n_len (by decide +kernel) (ma_cons (me_var 0) (ma_nil))) (me_int)) (mw_or1 (mt_not (mt_val (me_call (ok_is_from t) (hr.mono (by decide)) (fun h => nomatch h) t.d_is_from.m t.d_is_from.k t.d_is_from.b (takes_of rfl rfl rfl rfl) (ma_cons (me_ix (me_var 0) (me_int)) (ma_cons (me_int) (ma_cons (me_var 1) (ma_nil))))))))))) (mss_one (ms_ret (me_bl))) (mss_nil)) (mss_cons (ms_set 4 sc_settle_fits.nd (me_dget (u1 hr) (me_dict (mp_cons (kk := .inr "show") (me_str) (me_gint t.g_MOST_PORT) (mp_cons (kk := .inr "turn") (me_str) (me_op op_sub mo_sub (me_var 2) (me_int)) (mp_cons (kk := .inr "take") (me_str) (me_op op_sub mo_sub (me_gint t.g_MANY_REGISTERS) (me_int)) (mp_nil)))) (by decide)) (me_var 3))) (mss_one (ms_ret (me_call (ok_is_from t) (hr.mono (by decide)) (fun h => nomatch h) t.d_is_from.m t.d_is_from.k t.d_is_from.b (takes_of rfl rfl rfl rfl) (ma_cons (me_ix (me_var 0) (me_int)) (ma_cons (me_int) (ma_cons (me_var 4) (ma_nil))))))))))))
theorem ex_is_settle : ∃ f : Ads → MSp, f = fun q => mDef 1 (mRet (mIsi .str (mOp fIx (mVar 0) (mC (.int 0))))) := ⟨_, rfl⟩
noncomputable def sp_is_settle (q : Ads) : MSp := ex_is_settle.choose q
theorem un_is_settle (q : Ads) : sp_is_settle q = mDef 1 (mRet (mIsi .str (mOp fIx (mVar 0) (mC (.int 0))))) := congrFun ex_is_settle.choose_spec q
abbrev N_is_settle : List Str := ["cell"]
theorem sc_is_settle : FnScope N_is_settle ["cell"] (defScope (top 22)) := ⟨rfl, rfl, rfl, by decide +kernel, rfl, by decide +kernel, by decide +kernel⟩
theorem ok_is_settle (t : Txt K mg base q) : FnG P w K mg base (tT q) false 1 t.d_is_settle.f t.d_is_settle.fd ["cell"] 1 (sp_is_settle q) := by
  rw [un_is_settle]
  exact t.d_is_settle.ok sc_is_settle rfl fun A outer s H E hr gA =>
    mss_one (ms_ret (me_isi .str t.n_isinstance t.n_str (me_ix (me_var 0) (me_int))))
theorem ex_cell_fits : ∃ f : Ads → MSp, f = fun q => mDef 5 (mSeq (mIfS (mOr (mNot (mVal (mIsi .tup (mVar 0)))) (mVal (mOp fEq (mFn fLen [mVar 0]) (mC (.int 0))))) (mRet (mC (.bl false))) (mNext)) (mSeq (mIfS (mVal (mCall (sp_is_from q) [mOp fIx (mVar 0) (mC (.int 0)), mC (.int 0), mOp fSub (mVar 1) (mC (.int 1))])) (mRet (mCall (sp_instruction_fits q) [mVar 0, mOp fIx (mVar 0) (mC (.int 0)), mVar 2, mVar 4])) (mNext)) (mRet (mCall (sp_settle_fits q) [mVar 0, mVar 1, mVar 3])))) := ⟨_, rfl⟩
noncomputable def sp_cell_fits (q : Ads) : MSp := ex_cell_fits.choose q
theorem un_cell_fits (q : Ads) : sp_cell_fits q = mDef 5 (mSeq (mIfS (mOr (mNot (mVal (mIsi .tup (mVar 0)))) (mVal (mOp fEq (mFn fLen [mVar 0]) (mC (.int 0))))) (mRet (mC (.bl false))) (mNext)) (mSeq (mIfS (mVal (mCall (sp_is_from q) [mOp fIx (mVar 0) (mC (.int 0)), mC (.int 0), mOp fSub (mVar 1) (mC (.int 1))])) (mRet (mCall (sp_instruction_fits q) [mVar 0, mOp fIx (mVar 0) (mC (.int 0)), mVar 2, mVar 4])) (mNext)) (mRet (mCall (sp_settle_fits q) [mVar 0, mVar 1, mVar 3])))) := congrFun ex_cell_fits.choose_spec q
abbrev N_cell_fits : List Str := ["value", "hues", "size", "many", "bank"]
theorem sc_cell_fits : FnScope N_cell_fits ["value", "hues", "size", "many", "bank"] (defScope (top 23)) := ⟨rfl, rfl, rfl, by decide +kernel, rfl, by decide +kernel, by decide +kernel⟩
theorem ok_cell_fits (t : Txt K mg base q) : FnG P w K mg base (tT q) false 5 t.d_cell_fits.f t.d_cell_fits.fd ["value", "hues", "size", "many", "bank"] 5 (sp_cell_fits q) := by
  rw [un_cell_fits]
  exact t.d_cell_fits.ok sc_cell_fits rfl fun A outer s H E hr gA =>
    mss_cons (ms_if (mt_bool (mw_or (mt_not (mt_val (me_isi .tup t.n_isinstance t.n_tuple (me_var 0)))) (mw_or1 (mt_cmp (op_eqM (u64 hr)) mo_eq (me_fnB call_lenM mf_len t.n_len (by decide +kernel) (ma_cons (me_var 0) (ma_nil))) (me_int))))) (mss_one (ms_ret (me_bl))) (mss_nil)) (mss_cons (ms_if (mt_val (me_call (ok_is_from t) (hr.mono (by decide)) (fun h => nomatch h) t.d_is_from.m t.d_is_from.k t.d_is_from.b (takes_of rfl rfl rfl rfl) (ma_cons (me_ix (me_var 0) (me_int)) (ma_cons (me_int) (ma_cons (me_op op_sub mo_sub (me_var 1) (me_int)) (ma_nil)))))) (mss_one (ms_ret (me_call (ok_instruction_fits t) (hr.mono (by decide)) (fun h => nomatch h) t.d_instruction_fits.m t.d_instruction_fits.k t.d_instruction_fits.b (takes_of rfl rfl rfl rfl) (ma_cons (me_var 0) (ma_cons (me_ix (me_var 0) (me_int)) (ma_cons (me_var 2) (ma_cons (me_var 4) (ma_nil)))))))) (mss_nil)) (mss_one (ms_ret (me_call (ok_settle_fits t) (hr.mono (by decide)) (fun h => nomatch h) t.d_settle_fits.m t.d_settle_fits.k t.d_settle_fits.b (takes_of rfl rfl rfl rfl) (ma_cons (me_var 0) (ma_cons (me_var 1) (ma_cons (me_var 3) (ma_nil))))))))
theorem ex_is_code : ∃ f : Ads → MSp, f = fun q => mDef 8 (mSeq (mIfS (mOr (mNot (mVal (mIsi .tup (mVar 0)))) (mOr (mVal (mOp fNe (mFn fLen [mVar 0]) (mC (.int 4)))) (mNot (mVal (mCall (sp_is_votes q) [mOp fIx (mVar 0) (mC (.int 0))]))))) (mRet (mC (.bl false))) (mNext)) (mSeq (mAsg (mVar 0) (.tp [2, 3, 4, 5])) (mSeq (mIfS (mOr (mNot (mVal (mCall (sp_is_from q) [mVar 3, mC (.int 2), mC (.int 10000)]))) (mOr (mNot (mVal (mIsi .tup (mVar 5)))) (mVal (mOp fGt (mFn fLen [mVar 5]) (mC (.int 600)))))) (mRet (mC (.bl false))) (mNext)) (mSeq (mIfS (mVal (mOp fNe (mLc (miSeq (mVar 5)) (.nm 6) (mNot (mVal (mCall (sp_is_from q) [mVar 6, mC (.int 0), mOp fSub (mVar 3) (mC (.int 1))]))) (mVar 6) [6]) (mLst []))) (mRet (mC (.bl false))) (mNext)) (mSeq (mIfS (mOr (mNot (mVal (mIsi .tup (mVar 4)))) (mNot (mVal (mChain fLe fLe (mC (.int 1)) (mFn fLen [mVar 4]) (mC (.int 4000)))))) (mRet (mC (.bl false))) (mNext)) (mSeq (mAsg (mFn fLen [mVar 4]) (.nm 1)) (mRet (mOp fEq (mLc (miSeq (mVar 4)) (.nm 7) (mNot (mVal (mCall (sp_cell_fits q) [mVar 7, mFn fLen [mVar 2], mVar 3, mVar 1, mFn fLen [mVar 5]]))) (mVar 7) [7]) (mLst []))))))))) := ⟨_, rfl⟩
noncomputable def sp_is_code (q : Ads) : MSp := ex_is_code.choose q
theorem un_is_code (q : Ads) : sp_is_code q = mDef 8 (mSeq (mIfS (mOr (mNot (mVal (mIsi .tup (mVar 0)))) (mOr (mVal (mOp fNe (mFn fLen [mVar 0]) (mC (.int 4)))) (mNot (mVal (mCall (sp_is_votes q) [mOp fIx (mVar 0) (mC (.int 0))]))))) (mRet (mC (.bl false))) (mNext)) (mSeq (mAsg (mVar 0) (.tp [2, 3, 4, 5])) (mSeq (mIfS (mOr (mNot (mVal (mCall (sp_is_from q) [mVar 3, mC (.int 2), mC (.int 10000)]))) (mOr (mNot (mVal (mIsi .tup (mVar 5)))) (mVal (mOp fGt (mFn fLen [mVar 5]) (mC (.int 600)))))) (mRet (mC (.bl false))) (mNext)) (mSeq (mIfS (mVal (mOp fNe (mLc (miSeq (mVar 5)) (.nm 6) (mNot (mVal (mCall (sp_is_from q) [mVar 6, mC (.int 0), mOp fSub (mVar 3) (mC (.int 1))]))) (mVar 6) [6]) (mLst []))) (mRet (mC (.bl false))) (mNext)) (mSeq (mIfS (mOr (mNot (mVal (mIsi .tup (mVar 4)))) (mNot (mVal (mChain fLe fLe (mC (.int 1)) (mFn fLen [mVar 4]) (mC (.int 4000)))))) (mRet (mC (.bl false))) (mNext)) (mSeq (mAsg (mFn fLen [mVar 4]) (.nm 1)) (mRet (mOp fEq (mLc (miSeq (mVar 4)) (.nm 7) (mNot (mVal (mCall (sp_cell_fits q) [mVar 7, mFn fLen [mVar 2], mVar 3, mVar 1, mFn fLen [mVar 5]]))) (mVar 7) [7]) (mLst []))))))))) := congrFun ex_is_code.choose_spec q
abbrev N_is_code : List Str := ["value", "many", "votes", "size", "cells", "bank", "one", "cell"]
theorem sc_is_code : FnScope N_is_code ["value"] (defScope (top 24)) := ⟨rfl, rfl, rfl, by decide +kernel, rfl, by decide +kernel, by decide +kernel⟩
theorem ok_is_code (t : Txt K mg base q) : FnG P w K mg base (tT q) false 6 t.d_is_code.f t.d_is_code.fd ["value"] 1 (sp_is_code q) := by
  rw [un_is_code]
  exact t.d_is_code.ok sc_is_code rfl fun A outer s H E hr gA =>
    mss_cons (ms_if (mt_bool (mw_or (mt_not (mt_val (me_isi .tup t.n_isinstance t.n_tuple (me_var 0)))) (mw_or (mt_cmp (op_neM (u64 hr)) mo_ne (me_fnB call_lenM mf_len t.n_len (by decide +kernel) (ma_cons (me_var 0) (ma_nil))) (me_int)) (mw_or1 (mt_not (mt_val (me_call (ok_is_votes t) (hr.mono (by decide)) (fun h => nomatch h) t.d_is_votes.m t.d_is_votes.k t.d_is_votes.b (takes_of rfl rfl rfl rfl) (ma_cons (me_ix (me_var 0) (me_int)) (ma_nil))))))))) (mss_one (ms_ret (me_bl))) (mss_nil)) (mss_cons (ms_asg (me_var 0) (pg_tup rfl (pgs_cons (pg_name (i := 2) sc_is_code.nd rfl (by first | exact Or.inl rfl | exact Or.inr rfl)) (pgs_cons (pg_name (i := 3) sc_is_code.nd rfl (by first | exact Or.inl rfl | exact Or.inr rfl)) (pgs_cons (pg_name (i := 4) sc_is_code.nd rfl (by first | exact Or.inl rfl | exact Or.inr rfl)) (pgs_cons (pg_name (i := 5) sc_is_code.nd rfl (by first | exact Or.inl rfl | exact Or.inr rfl)) (pgs_nil)))))) (gok_tp [2, 3, 4, 5] rfl)) (mss_cons (ms_if (mt_bool (mw_or (mt_not (mt_val (me_call (ok_is_from t) (hr.mono (by decide)) (fun h => nomatch h) t.d_is_from.m t.d_is_from.k t.d_is_from.b (takes_of rfl rfl rfl rfl) (ma_cons (me_var 3) (ma_cons (me_gint t.g_LEAST_SIZE) (ma_cons (me_gint t.g_MOST_SIZE) (ma_nil))))))) (mw_or (mt_not (mt_val (me_isi .tup t.n_isinstance t.n_tuple (me_var 5)))) (mw_or1 (mt_cmp op_gt mo_gt (me_fnB call_lenM mf_len t.n_len (by decide +kernel) (ma_cons (me_var 5) (ma_nil))) (me_gint t.g_MOST_BANK)))))) (mss_one (ms_ret (me_bl))) (mss_nil)) (mss_cons (ms_if (mt_cmp (op_neM (u64 hr)) mo_ne (me_lcI (own := [("one", 6)]) rfl sc_is_code.nd (mi_seq (me_var 5)) (gow_nm 6) (blkOk_by (N := N_is_code) (sc := defScope (top 24)) (by decide +kernel)) (fun _ _ _ _ _ => pg_name (i := 6) sc_is_code.nd rfl (by first | exact Or.inl rfl | exact Or.inr rfl)) (fun _ _ _ _ _ => mt_not (mt_val (me_call (ok_is_from t) (hr.mono (by decide)) (fun h => nomatch h) t.d_is_from.m t.d_is_from.k t.d_is_from.b (LamX.takes0) (ma_cons (me_var 6) (ma_cons (me_int) (ma_cons (me_op op_sub mo_sub (me_var 3) (me_int)) (ma_nil))))))) (fun _ _ _ _ _ => me_var 6)) (me_lst (ma_nil))) (mss_one (ms_ret (me_bl))) (mss_nil)) (mss_cons (ms_if (mt_bool (mw_or (mt_not (mt_val (me_isi .tup t.n_isinstance t.n_tuple (me_var 4)))) (mw_or1 (mt_not (mt_chain op_le mo_le op_le mo_le (me_int) (me_fnB call_lenM mf_len t.n_len (by decide +kernel) (ma_cons (me_var 4) (ma_nil))) (me_gint t.g_MOST_CELLS)))))) (mss_one (ms_ret (me_bl))) (mss_nil)) (mss_cons (ms_set 1 sc_is_code.nd (me_fnB call_lenM mf_len t.n_len (by decide +kernel) (ma_cons (me_var 4) (ma_nil)))) (mss_one (ms_ret (me_cmp (op_eqM (u64 hr)) mo_eq (me_lcI (own := [("cell", 7)]) rfl sc_is_code.nd (mi_seq (me_var 4)) (gow_nm 7) (blkOk_by (N := N_is_code) (sc := defScope (top 24)) (by decide +kernel)) (fun _ _ _ _ _ => pg_name (i := 7) sc_is_code.nd rfl (by first | exact Or.inl rfl | exact Or.inr rfl)) (fun _ _ _ _ _ => mt_not (mt_val (me_call (ok_cell_fits t) (hr.mono (by decide)) (fun h => nomatch h) t.d_cell_fits.m t.d_cell_fits.k t.d_cell_fits.b (LamX.takes0) (ma_cons (me_var 7) (ma_cons (me_fnB call_lenM mf_len t.n_len (by decide +kernel) (ma_cons (me_var 2) (ma_nil))) (ma_cons (me_var 3) (ma_cons (me_var 1) (ma_cons (me_fnB call_lenM mf_len t.n_len (by decide +kernel) (ma_cons (me_var 5) (ma_nil))) (ma_nil))))))))) (fun _ _ _ _ _ => me_var 7)) (me_lst (ma_nil))))))))))
theorem ex_need_code : ∃ f : Ads → MSp, f = fun q => mDef 1 (mIfS (mNot (mVal (mCall (sp_is_code q) [mVar 0]))) (mRaise q.BadCode) (mNext)) := ⟨_, rfl⟩
noncomputable def sp_need_code (q : Ads) : MSp := ex_need_code.choose q
theorem un_need_code (q : Ads) : sp_need_code q = mDef 1 (mIfS (mNot (mVal (mCall (sp_is_code q) [mVar 0]))) (mRaise q.BadCode) (mNext)) := congrFun ex_need_code.choose_spec q
abbrev N_need_code : List Str := ["code"]
theorem sc_need_code : FnScope N_need_code ["code"] (defScope (top 25)) := ⟨rfl, rfl, rfl, by decide +kernel, rfl, by decide +kernel, by decide +kernel⟩
theorem ok_need_code (t : Txt K mg base q) : FnG P w K mg base (tT q) false 7 t.d_need_code.f t.d_need_code.fd ["code"] 1 (sp_need_code q) := by
  rw [un_need_code]
  exact t.d_need_code.ok sc_need_code rfl fun A outer s H E hr gA =>
    mss_one (ms_if (mt_not (mt_val (me_call (ok_is_code t) (hr.mono (by decide)) (fun h => nomatch h) t.d_is_code.m t.d_is_code.k t.d_is_code.b (takes_of rfl rfl rfl rfl) (ma_cons (me_var 0) (ma_nil))))) (mss_one (ms_err rfl (takes_of rfl rfl rfl rfl) t.e_BadCode)) (mss_nil))
theorem ex_need_hue : ∃ f : Ads → MSp, f = fun q => mDef 2 (mIfS (mNot (mVal (mCall (sp_is_from q) [mVar 1, mC (.int 0), mOp fSub (mFn fLen [mOp fIx (mVar 0) (mC (.int 0))]) (mC (.int 1))]))) (mRaise q.BadHue) (mNext)) := ⟨_, rfl⟩
noncomputable def sp_need_hue (q : Ads) : MSp := ex_need_hue.choose q
theorem un_need_hue (q : Ads) : sp_need_hue q = mDef 2 (mIfS (mNot (mVal (mCall (sp_is_from q) [mVar 1, mC (.int 0), mOp fSub (mFn fLen [mOp fIx (mVar 0) (mC (.int 0))]) (mC (.int 1))]))) (mRaise q.BadHue) (mNext)) := congrFun ex_need_hue.choose_spec q
abbrev N_need_hue : List Str := ["code", "hue"]
theorem sc_need_hue : FnScope N_need_hue ["code", "hue"] (defScope (top 26)) := ⟨rfl, rfl, rfl, by decide +kernel, rfl, by decide +kernel, by decide +kernel⟩
theorem ok_need_hue (t : Txt K mg base q) : FnG P w K mg base (tT q) false 3 t.d_need_hue.f t.d_need_hue.fd ["code", "hue"] 2 (sp_need_hue q) := by
  rw [un_need_hue]
  exact t.d_need_hue.ok sc_need_hue rfl fun A outer s H E hr gA =>
    mss_one (ms_if (mt_not (mt_val (me_call (ok_is_from t) (hr.mono (by decide)) (fun h => nomatch h) t.d_is_from.m t.d_is_from.k t.d_is_from.b (takes_of rfl rfl rfl rfl) (ma_cons (me_var 1) (ma_cons (me_int) (ma_cons (me_op op_sub mo_sub (me_fnB call_lenM mf_len t.n_len (by decide +kernel) (ma_cons (me_ix (me_var 0) (me_int)) (ma_nil))) (me_int)) (ma_nil))))))) (mss_one (ms_err rfl (takes_of rfl rfl rfl rfl) t.e_BadHue)) (mss_nil))
theorem ex_need_address : ∃ f : Ads → MSp, f = fun q => mDef 2 (mIfS (mNot (mVal (mCall (sp_is_from q) [mVar 1, mC (.int 0), mOp fSub (mFn fLen [mOp fIx (mVar 0) (mC (.int 2))]) (mC (.int 1))]))) (mRaise q.BadAddress) (mNext)) := ⟨_, rfl⟩
noncomputable def sp_need_address (q : Ads) : MSp := ex_need_address.choose q
theorem un_need_address (q : Ads) : sp_need_address q = mDef 2 (mIfS (mNot (mVal (mCall (sp_is_from q) [mVar 1, mC (.int 0), mOp fSub (mFn fLen [mOp fIx (mVar 0) (mC (.int 2))]) (mC (.int 1))]))) (mRaise q.BadAddress) (mNext)) := congrFun ex_need_address.choose_spec q
abbrev N_need_address : List Str := ["code", "address"]
theorem sc_need_address : FnScope N_need_address ["code", "address"] (defScope (top 27)) := ⟨rfl, rfl, rfl, by decide +kernel, rfl, by decide +kernel, by decide +kernel⟩
theorem ok_need_address (t : Txt K mg base q) : FnG P w K mg base (tT q) false 3 t.d_need_address.f t.d_need_address.fd ["code", "address"] 2 (sp_need_address q) := by
  rw [un_need_address]
  exact t.d_need_address.ok sc_need_address rfl fun A outer s H E hr gA =>
    mss_one (ms_if (mt_not (mt_val (me_call (ok_is_from t) (hr.mono (by decide)) (fun h => nomatch h) t.d_is_from.m t.d_is_from.k t.d_is_from.b (takes_of rfl rfl rfl rfl) (ma_cons (me_var 1) (ma_cons (me_int) (ma_cons (me_op op_sub mo_sub (me_fnB call_lenM mf_len t.n_len (by decide +kernel) (ma_cons (me_ix (me_var 0) (me_int)) (ma_nil))) (me_int)) (ma_nil))))))) (mss_one (ms_err rfl (takes_of rfl rfl rfl rfl) t.e_BadAddress)) (mss_nil))
theorem ex_own_cells : ∃ f : Ads → MSp, f = fun q => mDef 4 (mRet (mLc (miEnum 0 (mOp fIx (mVar 0) (mC (.int 2)))) (.tp [2, 3]) (mAnd (mNot (mVal (mCall (sp_is_settle q) [mVar 3]))) (mVal (mOp fEq (mOp fIx (mVar 3) (mC (.int 0))) (mVar 1)))) (mTup [mVar 2, mVar 3]) [2, 3])) := ⟨_, rfl⟩
noncomputable def sp_own_cells (q : Ads) : MSp := ex_own_cells.choose q
theorem un_own_cells (q : Ads) : sp_own_cells q = mDef 4 (mRet (mLc (miEnum 0 (mOp fIx (mVar 0) (mC (.int 2)))) (.tp [2, 3]) (mAnd (mNot (mVal (mCall (sp_is_settle q) [mVar 3]))) (mVal (mOp fEq (mOp fIx (mVar 3) (mC (.int 0))) (mVar 1)))) (mTup [mVar 2, mVar 3]) [2, 3])) := congrFun ex_own_cells.choose_spec q
abbrev N_own_cells : List Str := ["code", "hue", "at", "cell"]
theorem sc_own_cells : FnScope N_own_cells ["code", "hue"] (defScope (top 28)) := ⟨rfl, rfl, rfl, by decide +kernel, rfl, by decide +kernel, by decide +kernel⟩
theorem ok_own_cells (t : Txt K mg base q) : FnG P w K mg base (tT q) false 2 t.d_own_cells.f t.d_own_cells.fd ["code", "hue"] 2 (sp_own_cells q) := by
  rw [un_own_cells]
  exact t.d_own_cells.ok sc_own_cells rfl fun A outer s H E hr gA =>
    mss_one (ms_ret (me_lcI (own := [("at", 2), ("cell", 3)]) rfl sc_own_cells.nd (mi_enum t.n_enumerate (me_ix (me_var 0) (me_int))) (gow_tp [2, 3] rfl (by decide)) (blkOk_by (N := N_own_cells) (sc := defScope (top 28)) (by decide +kernel)) (fun _ _ _ _ _ => pg_tup rfl (pgs_cons (pg_name (i := 2) sc_own_cells.nd rfl (by first | exact Or.inl rfl | exact Or.inr rfl)) (pgs_cons (pg_name (i := 3) sc_own_cells.nd rfl (by first | exact Or.inl rfl | exact Or.inr rfl)) (pgs_nil)))) (fun _ _ _ _ _ => mt_bool (mw_and (mt_not (mt_val (me_call (ok_is_settle t) (hr.mono (by decide)) (fun h => nomatch h) t.d_is_settle.m t.d_is_settle.k t.d_is_settle.b (LamX.takes0) (ma_cons (me_var 3) (ma_nil))))) (mw_and1 (mt_cmp (op_eqM (u64 hr)) mo_eq (me_ix (me_var 3) (me_int)) (me_var 1))))) (fun _ _ _ _ _ => me_tup (ma_cons (me_var 2) (ma_cons (me_var 3) (ma_nil))))))
theorem ex_instructions : ∃ f : Ads → MSp, f = fun q => mDef 2 (mSeq (mDrop (mCall (sp_need_code q) [mVar 0])) (mSeq (mDrop (mCall (sp_need_hue q) [mVar 0, mVar 1])) (mRet (mCall (sp_own_cells q) [mVar 0, mVar 1])))) := ⟨_, rfl⟩
noncomputable def sp_instructions (q : Ads) : MSp := ex_instructions.choose q
theorem un_instructions (q : Ads) : sp_instructions q = mDef 2 (mSeq (mDrop (mCall (sp_need_code q) [mVar 0])) (mSeq (mDrop (mCall (sp_need_hue q) [mVar 0, mVar 1])) (mRet (mCall (sp_own_cells q) [mVar 0, mVar 1])))) := congrFun ex_instructions.choose_spec q
abbrev N_instructions : List Str := ["code", "hue"]
theorem sc_instructions : FnScope N_instructions ["code", "hue"] (defScope (top 29)) := ⟨rfl, rfl, rfl, by decide +kernel, rfl, by decide +kernel, by decide +kernel⟩
theorem ok_instructions (t : Txt K mg base q) : FnG P w K mg base (tT q) false 8 t.d_instructions.f t.d_instructions.fd ["code", "hue"] 2 (sp_instructions q) := by
  rw [un_instructions]
  exact t.d_instructions.ok sc_instructions rfl fun A outer s H E hr gA =>
    mss_cons (ms_expr (me_call (ok_need_code t) (hr.mono (by decide)) (fun h => nomatch h) t.d_need_code.m t.d_need_code.k t.d_need_code.b (takes_of rfl rfl rfl rfl) (ma_cons (me_var 0) (ma_nil)))) (mss_cons (ms_expr (me_call (ok_need_hue t) (hr.mono (by decide)) (fun h => nomatch h) t.d_need_hue.m t.d_need_hue.k t.d_need_hue.b (takes_of rfl rfl rfl rfl) (ma_cons (me_var 0) (ma_cons (me_var 1) (ma_nil))))) (mss_one (ms_ret (me_call (ok_own_cells t) (hr.mono (by decide)) (fun h => nomatch h) t.d_own_cells.m t.d_own_cells.k t.d_own_cells.b (takes_of rfl rfl rfl rfl) (ma_cons (me_var 0) (ma_cons (me_var 1) (ma_nil)))))))
theorem ex_label_lot : ∃ f : Ads → MSp, f = fun q => mDef 4 (mSeq (mAsg (mDict [(.inl 0, mC (.bl true))]) (.nm 1)) (mSeq (mFor (miEnum 0 (mVar 0)) (.tp [2, 3]) (mIfS (mVal (mCall (sp_is_settle q) [mVar 3])) (mSeq (mIfS (mVal (mOp fIn (mOp fIx (mVar 3) (mC (.int 0))) (mTup [mC (.str "turn"), mC (.str "goto")]))) (mPut (mC (.bl true)) (mVar 1) (mOp fIx (mVar 3) (mC (.int 1)))) (mNext)) (mIfS (mVal (mOp fLt (mOp fAdd (mVar 2) (mC (.int 1))) (mFn fLen [mVar 0]))) (mPut (mC (.bl true)) (mVar 1) (mOp fAdd (mVar 2) (mC (.int 1)))) (mNext))) (mNext))) (mRet (mVar 1)))) := ⟨_, rfl⟩
noncomputable def sp_label_lot (q : Ads) : MSp := ex_label_lot.choose q
theorem un_label_lot (q : Ads) : sp_label_lot q = mDef 4 (mSeq (mAsg (mDict [(.inl 0, mC (.bl true))]) (.nm 1)) (mSeq (mFor (miEnum 0 (mVar 0)) (.tp [2, 3]) (mIfS (mVal (mCall (sp_is_settle q) [mVar 3])) (mSeq (mIfS (mVal (mOp fIn (mOp fIx (mVar 3) (mC (.int 0))) (mTup [mC (.str "turn"), mC (.str "goto")]))) (mPut (mC (.bl true)) (mVar 1) (mOp fIx (mVar 3) (mC (.int 1)))) (mNext)) (mIfS (mVal (mOp fLt (mOp fAdd (mVar 2) (mC (.int 1))) (mFn fLen [mVar 0]))) (mPut (mC (.bl true)) (mVar 1) (mOp fAdd (mVar 2) (mC (.int 1)))) (mNext))) (mNext))) (mRet (mVar 1)))) := congrFun ex_label_lot.choose_spec q
abbrev N_label_lot : List Str := ["cells", "found", "at", "cell"]
theorem sc_label_lot : FnScope N_label_lot ["cells"] (defScope (top 31)) := ⟨rfl, rfl, rfl, by decide +kernel, rfl, by decide +kernel, by decide +kernel⟩
theorem ok_label_lot (t : Txt K mg base q) : FnG P w K mg base (tT q) false 2 t.d_label_lot.f t.d_label_lot.fd ["cells"] 1 (sp_label_lot q) := by
  rw [un_label_lot]
  exact t.d_label_lot.ok sc_label_lot rfl fun A outer s H E hr gA =>
    mss_cons (ms_set 1 sc_label_lot.nd (me_dict (mp_cons (kk := .inl 0) (me_int) (me_bl) (mp_nil)) (by decide))) (mss_cons (ms_for (passes_of rfl) rfl (mi_enum t.n_enumerate (me_var 0)) (pg_tup rfl (pgs_cons (pg_name (i := 2) sc_label_lot.nd rfl (by first | exact Or.inl rfl | exact Or.inr rfl)) (pgs_cons (pg_name (i := 3) sc_label_lot.nd rfl (by first | exact Or.inl rfl | exact Or.inr rfl)) (pgs_nil)))) (gok_tp [2, 3] rfl) (mss_one (ms_if (mt_val (me_call (ok_is_settle t) (hr.mono (by decide)) (fun h => nomatch h) t.d_is_settle.m t.d_is_settle.k t.d_is_settle.b (takes_of rfl rfl rfl rfl) (ma_cons (me_var 3) (ma_nil)))) (mss_cons (ms_if (mt_cmp (op_inM (u64 hr)) mo_in (me_ix (me_var 3) (me_int)) (me_tup (ma_cons (me_str) (ma_cons (me_str) (ma_nil))))) (mss_one (ms_put (u1 hr) (me_bl) (me_var 1) (me_ix (me_var 3) (me_int)))) (mss_nil)) (mss_one (ms_if (mt_cmp op_lt mo_lt (me_op op_addM mo_add (me_var 2) (me_int)) (me_fnB call_lenM mf_len t.n_len (by decide +kernel) (ma_cons (me_var 0) (ma_nil)))) (mss_one (ms_put (u1 hr) (me_bl) (me_var 1) (me_op op_addM mo_add (me_var 2) (me_int)))) (mss_nil)))) (mss_nil)))) (mss_one (ms_ret (me_var 1))))
theorem ex_labels_of : ∃ f : Ads → MSp, f = fun q => mDef 1 (mSeq (mDrop (mCall (sp_need_code q) [mVar 0])) (mRet (mFn fSortD [mCall (sp_label_lot q) [mOp fIx (mVar 0) (mC (.int 2))]]))) := ⟨_, rfl⟩
noncomputable def sp_labels_of (q : Ads) : MSp := ex_labels_of.choose q
theorem un_labels_of (q : Ads) : sp_labels_of q = mDef 1 (mSeq (mDrop (mCall (sp_need_code q) [mVar 0])) (mRet (mFn fSortD [mCall (sp_label_lot q) [mOp fIx (mVar 0) (mC (.int 2))]]))) := congrFun ex_labels_of.choose_spec q
abbrev N_labels_of : List Str := ["code"]
theorem sc_labels_of : FnScope N_labels_of ["code"] (defScope (top 32)) := ⟨rfl, rfl, rfl, by decide +kernel, rfl, by decide +kernel, by decide +kernel⟩
theorem ok_labels_of (t : Txt K mg base q) : FnG P w K mg base (tT q) false 8 t.d_labels_of.f t.d_labels_of.fd ["code"] 1 (sp_labels_of q) := by
  rw [un_labels_of]
  exact t.d_labels_of.ok sc_labels_of rfl fun A outer s H E hr gA =>
    mss_cons (ms_expr (me_call (ok_need_code t) (hr.mono (by decide)) (fun h => nomatch h) t.d_need_code.m t.d_need_code.k t.d_need_code.b (takes_of rfl rfl rfl rfl) (ma_cons (me_var 0) (ma_nil)))) (mss_one (ms_ret (me_fnB (call_sortedDI rfl) mf_sortD t.n_sorted (by decide +kernel) (ma_cons (me_call (ok_label_lot t) (hr.mono (by decide)) (fun h => nomatch h) t.d_label_lot.m t.d_label_lot.k t.d_label_lot.b (takes_of rfl rfl rfl rfl) (ma_cons (me_ix (me_var 0) (me_int)) (ma_nil))) (ma_nil)))))
theorem ex_stretch_list : ∃ f : Ads → MSp, f = fun q => mDef 7 (mSeq (mAsg (mTup [mOp fIx (mVar 0) (mC (.int 2)), mLst [], mC .non]) (.tp [2, 3, 4])) (mSeq (mAsg (mCall (sp_label_lot q) [mVar 2]) (.nm 1)) (mSeq (mFor (miEnum 0 (mVar 2)) (.tp [5, 6]) (mSeq (mIfS (mAnd (mVal (mNotN (mVar 4))) (mOr (mVal (mOp fIn (mVar 5) (mVar 1))) (mVal (mCall (sp_is_settle q) [mVar 6])))) (mSeq (mDrop (mMeth fAppend (mVar 3) [mTup [mVar 4, mVar 5]])) (mAsg (mC .non) (.nm 4))) (mNext)) (mIfS (mAnd (mVal (mIsN (mVar 4))) (mNot (mVal (mCall (sp_is_settle q) [mVar 6])))) (mAsg (mVar 5) (.nm 4)) (mNext)))) (mRet (mIf (mVal (mIsN (mVar 4))) (mVar 3) (mOp fAdd (mVar 3) (mLst [mTup [mVar 4, mFn fLen [mVar 2]]]))))))) := ⟨_, rfl⟩
noncomputable def sp_stretch_list (q : Ads) : MSp := ex_stretch_list.choose q
theorem un_stretch_list (q : Ads) : sp_stretch_list q = mDef 7 (mSeq (mAsg (mTup [mOp fIx (mVar 0) (mC (.int 2)), mLst [], mC .non]) (.tp [2, 3, 4])) (mSeq (mAsg (mCall (sp_label_lot q) [mVar 2]) (.nm 1)) (mSeq (mFor (miEnum 0 (mVar 2)) (.tp [5, 6]) (mSeq (mIfS (mAnd (mVal (mNotN (mVar 4))) (mOr (mVal (mOp fIn (mVar 5) (mVar 1))) (mVal (mCall (sp_is_settle q) [mVar 6])))) (mSeq (mDrop (mMeth fAppend (mVar 3) [mTup [mVar 4, mVar 5]])) (mAsg (mC .non) (.nm 4))) (mNext)) (mIfS (mAnd (mVal (mIsN (mVar 4))) (mNot (mVal (mCall (sp_is_settle q) [mVar 6])))) (mAsg (mVar 5) (.nm 4)) (mNext)))) (mRet (mIf (mVal (mIsN (mVar 4))) (mVar 3) (mOp fAdd (mVar 3) (mLst [mTup [mVar 4, mFn fLen [mVar 2]]]))))))) := congrFun ex_stretch_list.choose_spec q
abbrev N_stretch_list : List Str := ["code", "labels", "cells", "found", "first", "at", "cell"]
theorem sc_stretch_list : FnScope N_stretch_list ["code"] (defScope (top 33)) := ⟨rfl, rfl, rfl, by decide +kernel, rfl, by decide +kernel, by decide +kernel⟩
theorem ok_stretch_list (t : Txt K mg base q) : FnG P w K mg base (tT q) false 3 t.d_stretch_list.f t.d_stretch_list.fd ["code"] 1 (sp_stretch_list q) := by
  rw [un_stretch_list]
  exact t.d_stretch_list.ok sc_stretch_list rfl fun A outer s H E hr gA =>
    mss_cons (ms_par3 2 3 4 rfl sc_stretch_list.nd (ma_cons (me_ix (me_var 0) (me_int)) (ma_cons (me_lst (ma_nil)) (ma_cons (me_non) (ma_nil))))) (mss_cons (ms_set 1 sc_stretch_list.nd (me_call (ok_label_lot t) (hr.mono (by decide)) (fun h => nomatch h) t.d_label_lot.m t.d_label_lot.k t.d_label_lot.b (takes_of rfl rfl rfl rfl) (ma_cons (me_var 2) (ma_nil)))) (mss_cons (ms_for (passes_of rfl) rfl (mi_enum t.n_enumerate (me_var 2)) (pg_tup rfl (pgs_cons (pg_name (i := 5) sc_stretch_list.nd rfl (by first | exact Or.inl rfl | exact Or.inr rfl)) (pgs_cons (pg_name (i := 6) sc_stretch_list.nd rfl (by first | exact Or.inl rfl | exact Or.inr rfl)) (pgs_nil)))) (gok_tp [5, 6] rfl) (mss_cons (ms_if (mt_bool (mw_and (mt_notN (me_var 4)) (mw_and1 (mt_bool (mw_or (mt_cmp (op_inM (u64 hr)) mo_in (me_var 5) (me_var 1)) (mw_or1 (mt_val (me_call (ok_is_settle t) (hr.mono (by decide)) (fun h => nomatch h) t.d_is_settle.m t.d_is_settle.k t.d_is_settle.b (takes_of rfl rfl rfl rfl) (ma_cons (me_var 6) (ma_nil)))))))))) (mss_cons (ms_expr (me_meth PySem.F.slot_list_append PySem.F.type_list_append mt_append met_append (me_var 3) (ma_cons (me_tup (ma_cons (me_var 4) (ma_cons (me_var 5) (ma_nil)))) (ma_nil)))) (mss_one (ms_set 4 sc_stretch_list.nd (me_non)))) (mss_nil)) (mss_one (ms_if (mt_bool (mw_and (mt_isN (me_var 4)) (mw_and1 (mt_not (mt_val (me_call (ok_is_settle t) (hr.mono (by decide)) (fun h => nomatch h) t.d_is_settle.m t.d_is_settle.k t.d_is_settle.b (takes_of rfl rfl rfl rfl) (ma_cons (me_var 6) (ma_nil)))))))) (mss_one (ms_set 4 sc_stretch_list.nd (me_var 5))) (mss_nil))))) (mss_one (ms_ret (me_if (mt_isN (me_var 4)) (me_var 3) (me_op op_addM mo_add (me_var 3) (me_lst (ma_cons (me_tup (ma_cons (me_var 4) (ma_cons (me_fnB call_lenM mf_len t.n_len (by decide +kernel) (ma_cons (me_var 2) (ma_nil))) (ma_nil)))) (ma_nil)))))))))
theorem ex_stretches : ∃ f : Ads → MSp, f = fun q => mDef 1 (mSeq (mDrop (mCall (sp_need_code q) [mVar 0])) (mRet (mCall (sp_stretch_list q) [mVar 0]))) := ⟨_, rfl⟩
noncomputable def sp_stretches (q : Ads) : MSp := ex_stretches.choose q
theorem un_stretches (q : Ads) : sp_stretches q = mDef 1 (mSeq (mDrop (mCall (sp_need_code q) [mVar 0])) (mRet (mCall (sp_stretch_list q) [mVar 0]))) := congrFun ex_stretches.choose_spec q
abbrev N_stretches : List Str := ["code"]
theorem sc_stretches : FnScope N_stretches ["code"] (defScope (top 34)) := ⟨rfl, rfl, rfl, by decide +kernel, rfl, by decide +kernel, by decide +kernel⟩
theorem ok_stretches (t : Txt K mg base q) : FnG P w K mg base (tT q) false 8 t.d_stretches.f t.d_stretches.fd ["code"] 1 (sp_stretches q) := by
  rw [un_stretches]
  exact t.d_stretches.ok sc_stretches rfl fun A outer s H E hr gA =>
    mss_cons (ms_expr (me_call (ok_need_code t) (hr.mono (by decide)) (fun h => nomatch h) t.d_need_code.m t.d_need_code.k t.d_need_code.b (takes_of rfl rfl rfl rfl) (ma_cons (me_var 0) (ma_nil)))) (mss_one (ms_ret (me_call (ok_stretch_list t) (hr.mono (by decide)) (fun h => nomatch h) t.d_stretch_list.m t.d_stretch_list.k t.d_stretch_list.b (takes_of rfl rfl rfl rfl) (ma_cons (me_var 0) (ma_nil)))))
theorem ex_exchange_spots : ∃ f : Ads → MSp, f = fun q => mDef 5 (mSeq (mAsg (mLst []) (.nm 1)) (mSeq (mFor (miSeq (mCall (sp_stretch_list q) [mVar 0])) (.tp [2, 3]) (mDrop (mMeth fExtend (mVar 1) [mLc (miRg2 (mVar 2) (mOp fSub (mVar 3) (mC (.int 1)))) (.nm 4) (mVal (mOp fNe (mOp fIx (mOp fIx (mOp fIx (mVar 0) (mC (.int 2))) (mVar 4)) (mC (.int 0))) (mOp fIx (mOp fIx (mOp fIx (mVar 0) (mC (.int 2))) (mOp fAdd (mVar 4) (mC (.int 1)))) (mC (.int 0))))) (mVar 4) [4]]))) (mRet (mVar 1)))) := ⟨_, rfl⟩
noncomputable def sp_exchange_spots (q : Ads) : MSp := ex_exchange_spots.choose q
theorem un_exchange_spots (q : Ads) : sp_exchange_spots q = mDef 5 (mSeq (mAsg (mLst []) (.nm 1)) (mSeq (mFor (miSeq (mCall (sp_stretch_list q) [mVar 0])) (.tp [2, 3]) (mDrop (mMeth fExtend (mVar 1) [mLc (miRg2 (mVar 2) (mOp fSub (mVar 3) (mC (.int 1)))) (.nm 4) (mVal (mOp fNe (mOp fIx (mOp fIx (mOp fIx (mVar 0) (mC (.int 2))) (mVar 4)) (mC (.int 0))) (mOp fIx (mOp fIx (mOp fIx (mVar 0) (mC (.int 2))) (mOp fAdd (mVar 4) (mC (.int 1)))) (mC (.int 0))))) (mVar 4) [4]]))) (mRet (mVar 1)))) := congrFun ex_exchange_spots.choose_spec q
abbrev N_exchange_spots : List Str := ["code", "found", "first", "end", "at"]
theorem sc_exchange_spots : FnScope N_exchange_spots ["code"] (defScope (top 35)) := ⟨rfl, rfl, rfl, by decide +kernel, rfl, by decide +kernel, by decide +kernel⟩
theorem ok_exchange_spots (t : Txt K mg base q) : FnG P w K mg base (tT q) false 4 t.d_exchange_spots.f t.d_exchange_spots.fd ["code"] 1 (sp_exchange_spots q) := by
  rw [un_exchange_spots]
  exact t.d_exchange_spots.ok sc_exchange_spots rfl fun A outer s H E hr gA =>
    mss_cons (ms_set 1 sc_exchange_spots.nd (me_lst (ma_nil))) (mss_cons (ms_for (passes_of rfl) rfl (mi_seq (me_call (ok_stretch_list t) (hr.mono (by decide)) (fun h => nomatch h) t.d_stretch_list.m t.d_stretch_list.k t.d_stretch_list.b (takes_of rfl rfl rfl rfl) (ma_cons (me_var 0) (ma_nil)))) (pg_tup rfl (pgs_cons (pg_name (i := 2) sc_exchange_spots.nd rfl (by first | exact Or.inl rfl | exact Or.inr rfl)) (pgs_cons (pg_name (i := 3) sc_exchange_spots.nd rfl (by first | exact Or.inl rfl | exact Or.inr rfl)) (pgs_nil)))) (gok_tp [2, 3] rfl) (mss_one (ms_expr (me_meth PySem.F.slot_list_extend PySem.F.type_list_extend mt_extend met_extend (me_var 1) (ma_cons (me_lcI (own := [("at", 4)]) rfl sc_exchange_spots.nd (mi_rg2 t.n_range (me_var 2) (me_op op_sub mo_sub (me_var 3) (me_int))) (gow_nm 4) (blkOk_by (N := N_exchange_spots) (sc := defScope (top 35)) (by decide +kernel)) (fun _ _ _ _ _ => pg_name (i := 4) sc_exchange_spots.nd rfl (by first | exact Or.inl rfl | exact Or.inr rfl)) (fun _ _ _ _ _ => mt_cmp (op_neM (u64 hr)) mo_ne (me_ix (me_ix (me_ix (me_var 0) (me_int)) (me_var 4)) (me_int)) (me_ix (me_ix (me_ix (me_var 0) (me_int)) (me_op op_addM mo_add (me_var 4) (me_int))) (me_int))) (fun _ _ _ _ _ => me_var 4)) (ma_nil)))))) (mss_one (ms_ret (me_var 1))))
theorem ex_exchangeable : ∃ f : Ads → MSp, f = fun q => mDef 1 (mSeq (mDrop (mCall (sp_need_code q) [mVar 0])) (mRet (mCall (sp_exchange_spots q) [mVar 0]))) := ⟨_, rfl⟩
noncomputable def sp_exchangeable (q : Ads) : MSp := ex_exchangeable.choose q
theorem un_exchangeable (q : Ads) : sp_exchangeable q = mDef 1 (mSeq (mDrop (mCall (sp_need_code q) [mVar 0])) (mRet (mCall (sp_exchange_spots q) [mVar 0]))) := congrFun ex_exchangeable.choose_spec q
abbrev N_exchangeable : List Str := ["code"]
theorem sc_exchangeable : FnScope N_exchangeable ["code"] (defScope (top 36)) := ⟨rfl, rfl, rfl, by decide +kernel, rfl, by decide +kernel, by decide +kernel⟩
theorem ok_exchangeable (t : Txt K mg base q) : FnG P w K mg base (tT q) false 8 t.d_exchangeable.f t.d_exchangeable.fd ["code"] 1 (sp_exchangeable q) := by
  rw [un_exchangeable]
  exact t.d_exchangeable.ok sc_exchangeable rfl fun A outer s H E hr gA =>
    mss_cons (ms_expr (me_call (ok_need_code t) (hr.mono (by decide)) (fun h => nomatch h) t.d_need_code.m t.d_need_code.k t.d_need_code.b (takes_of rfl rfl rfl rfl) (ma_cons (me_var 0) (ma_nil)))) (mss_one (ms_ret (me_call (ok_exchange_spots t) (hr.mono (by decide)) (fun h => nomatch h) t.d_exchange_spots.m t.d_exchange_spots.k t.d_exchange_spots.b (takes_of rfl rfl rfl rfl) (ma_cons (me_var 0) (ma_nil)))))
theorem ex_with_cells : ∃ f : Ads → MSp, f = fun q => mDef 2 (mRet (mTup [mOp fIx (mVar 0) (mC (.int 0)), mOp fIx (mVar 0) (mC (.int 1)), mFn fTuple [mVar 1], mOp fIx (mVar 0) (mC (.int 3))])) := ⟨_, rfl⟩
noncomputable def sp_with_cells (q : Ads) : MSp := ex_with_cells.choose q
theorem un_with_cells (q : Ads) : sp_with_cells q = mDef 2 (mRet (mTup [mOp fIx (mVar 0) (mC (.int 0)), mOp fIx (mVar 0) (mC (.int 1)), mFn fTuple [mVar 1], mOp fIx (mVar 0) (mC (.int 3))])) := congrFun ex_with_cells.choose_spec q
abbrev N_with_cells : List Str := ["code", "cells"]
theorem sc_with_cells : FnScope N_with_cells ["code", "cells"] (defScope (top 37)) := ⟨rfl, rfl, rfl, by decide +kernel, rfl, by decide +kernel, by decide +kernel⟩
theorem ok_with_cells (t : Txt K mg base q) : FnG P w K mg base (tT q) false 1 t.d_with_cells.f t.d_with_cells.fd ["code", "cells"] 2 (sp_with_cells q) := by
  rw [un_with_cells]
  exact t.d_with_cells.ok sc_with_cells rfl fun A outer s H E hr gA =>
    mss_one (ms_ret (me_tup (ma_cons (me_ix (me_var 0) (me_int)) (ma_cons (me_ix (me_var 0) (me_int)) (ma_cons (me_fnT call_tuple_of mf_tuple t.n_tuple (by decide +kernel) (ma_cons (me_var 1) (ma_nil))) (ma_cons (me_ix (me_var 0) (me_int)) (ma_nil)))))))
theorem ex_exchanged : ∃ f : Ads → MSp, f = fun q => mDef 3 (mSeq (mDrop (mCall (sp_need_code q) [mVar 0])) (mSeq (mIfS (mOr (mNot (mVal (mCall (sp_is_from q) [mVar 1, mC (.int 0), mOp fSub (mFn fLen [mOp fIx (mVar 0) (mC (.int 2))]) (mC (.int 1))]))) (mVal (mOp fNotIn (mVar 1) (mCall (sp_exchange_spots q) [mVar 0])))) (mRaise q.BadAddress) (mNext)) (mSeq (mAsg (mOp fIx (mVar 0) (mC (.int 2))) (.nm 2)) (mRet (mCall (sp_with_cells q) [mVar 0, mOp fAdd (mOp fAdd (mSl (mVar 2) none (some (mVar 1))) (mTup [mOp fIx (mVar 2) (mOp fAdd (mVar 1) (mC (.int 1))), mOp fIx (mVar 2) (mVar 1)])) (mSl (mVar 2) (some (mOp fAdd (mVar 1) (mC (.int 2)))) none)]))))) := ⟨_, rfl⟩
noncomputable def sp_exchanged (q : Ads) : MSp := ex_exchanged.choose q
theorem un_exchanged (q : Ads) : sp_exchanged q = mDef 3 (mSeq (mDrop (mCall (sp_need_code q) [mVar 0])) (mSeq (mIfS (mOr (mNot (mVal (mCall (sp_is_from q) [mVar 1, mC (.int 0), mOp fSub (mFn fLen [mOp fIx (mVar 0) (mC (.int 2))]) (mC (.int 1))]))) (mVal (mOp fNotIn (mVar 1) (mCall (sp_exchange_spots q) [mVar 0])))) (mRaise q.BadAddress) (mNext)) (mSeq (mAsg (mOp fIx (mVar 0) (mC (.int 2))) (.nm 2)) (mRet (mCall (sp_with_cells q) [mVar 0, mOp fAdd (mOp fAdd (mSl (mVar 2) none (some (mVar 1))) (mTup [mOp fIx (mVar 2) (mOp fAdd (mVar 1) (mC (.int 1))), mOp fIx (mVar 2) (mVar 1)])) (mSl (mVar 2) (some (mOp fAdd (mVar 1) (mC (.int 2)))) none)]))))) := congrFun ex_exchanged.choose_spec q
abbrev N_exchanged : List Str := ["code", "address", "cells"]
theorem sc_exchanged : FnScope N_exchanged ["code", "address"] (defScope (top 38)) := ⟨rfl, rfl, rfl, by decide +kernel, rfl, by decide +kernel, by decide +kernel⟩
theorem ok_exchanged (t : Txt K mg base q) : FnG P w K mg base (tT q) false 8 t.d_exchanged.f t.d_exchanged.fd ["code", "address"] 2 (sp_exchanged q) := by
  rw [un_exchanged]
  exact t.d_exchanged.ok sc_exchanged rfl fun A outer s H E hr gA =>
    mss_cons (ms_expr (me_call (ok_need_code t) (hr.mono (by decide)) (fun h => nomatch h) t.d_need_code.m t.d_need_code.k t.d_need_code.b (takes_of rfl rfl rfl rfl) (ma_cons (me_var 0) (ma_nil)))) (mss_cons (ms_if (mt_bool (mw_or (mt_not (mt_val (me_call (ok_is_from t) (hr.mono (by decide)) (fun h => nomatch h) t.d_is_from.m t.d_is_from.k t.d_is_from.b (takes_of rfl rfl rfl rfl) (ma_cons (me_var 1) (ma_cons (me_int) (ma_cons (me_op op_sub mo_sub (me_fnB call_lenM mf_len t.n_len (by decide +kernel) (ma_cons (me_ix (me_var 0) (me_int)) (ma_nil))) (me_int)) (ma_nil))))))) (mw_or1 (mt_cmp (op_notInM (u64 hr)) mo_notIn (me_var 1) (me_call (ok_exchange_spots t) (hr.mono (by decide)) (fun h => nomatch h) t.d_exchange_spots.m t.d_exchange_spots.k t.d_exchange_spots.b (takes_of rfl rfl rfl rfl) (ma_cons (me_var 0) (ma_nil))))))) (mss_one (ms_err rfl (takes_of rfl rfl rfl rfl) t.e_BadAddress)) (mss_nil)) (mss_cons (ms_set 2 sc_exchanged.nd (me_ix (me_var 0) (me_int))) (mss_one (ms_ret (me_call (ok_with_cells t) (hr.mono (by decide)) (fun h => nomatch h) t.d_with_cells.m t.d_with_cells.k t.d_with_cells.b (takes_of rfl rfl rfl rfl) (ma_cons (me_var 0) (ma_cons (me_op op_addM mo_add (me_op op_addM mo_add (me_slice (me_var 2) mo_none (mo_some (me_var 1))) (me_tup (ma_cons (me_ix (me_var 2) (me_op op_addM mo_add (me_var 1) (me_int))) (ma_cons (me_ix (me_var 2) (me_var 1)) (ma_nil))))) (me_slice (me_var 2) (mo_some (me_op op_addM mo_add (me_var 1) (me_int))) mo_none)) (ma_nil))))))))
theorem ex_sorted_code : ∃ f : Ads → MSp, f = fun q => mDef 5 (mSeq (mAsg (mFn fList [mOp fIx (mVar 0) (mC (.int 2))]) (.nm 1)) (mSeq (mFor (miSeq (mCall (sp_stretch_list q) [mVar 0])) (.tp [2, 3]) (mSeq (mAsg (mSl (mVar 1) (some (mVar 2)) (some (mVar 3))) (.nm 4)) (mPutSl (mSortK (mVar 4)) (mVar 1) (mVar 2) (mVar 3)))) (mRet (mCall (sp_with_cells q) [mVar 0, mVar 1])))) := ⟨_, rfl⟩
noncomputable def sp_sorted_code (q : Ads) : MSp := ex_sorted_code.choose q
theorem un_sorted_code (q : Ads) : sp_sorted_code q = mDef 5 (mSeq (mAsg (mFn fList [mOp fIx (mVar 0) (mC (.int 2))]) (.nm 1)) (mSeq (mFor (miSeq (mCall (sp_stretch_list q) [mVar 0])) (.tp [2, 3]) (mSeq (mAsg (mSl (mVar 1) (some (mVar 2)) (some (mVar 3))) (.nm 4)) (mPutSl (mSortK (mVar 4)) (mVar 1) (mVar 2) (mVar 3)))) (mRet (mCall (sp_with_cells q) [mVar 0, mVar 1])))) := congrFun ex_sorted_code.choose_spec q
abbrev N_sorted_code : List Str := ["code", "cells", "first", "end", "part"]
theorem sc_sorted_code : FnScope N_sorted_code ["code"] (defScope (top 39)) := ⟨rfl, rfl, rfl, by decide +kernel, rfl, by decide +kernel, by decide +kernel⟩
theorem ok_sorted_code (t : Txt K mg base q) : FnG P w K mg base (tT q) false 4 t.d_sorted_code.f t.d_sorted_code.fd ["code"] 1 (sp_sorted_code q) := by
  rw [un_sorted_code]
  exact t.d_sorted_code.ok sc_sorted_code rfl fun A outer s H E hr gA =>
    mss_cons (ms_set 1 sc_sorted_code.nd (me_fnT call_list_of mf_list t.n_list (by decide +kernel) (ma_cons (me_ix (me_var 0) (me_int)) (ma_nil)))) (mss_cons (ms_for (passes_of rfl) rfl (mi_seq (me_call (ok_stretch_list t) (hr.mono (by decide)) (fun h => nomatch h) t.d_stretch_list.m t.d_stretch_list.k t.d_stretch_list.b (takes_of rfl rfl rfl rfl) (ma_cons (me_var 0) (ma_nil)))) (pg_tup rfl (pgs_cons (pg_name (i := 2) sc_sorted_code.nd rfl (by first | exact Or.inl rfl | exact Or.inr rfl)) (pgs_cons (pg_name (i := 3) sc_sorted_code.nd rfl (by first | exact Or.inl rfl | exact Or.inr rfl)) (pgs_nil)))) (gok_tp [2, 3] rfl) (mss_cons (ms_set 4 sc_sorted_code.nd (me_slice (me_var 1) (mo_some (me_var 2)) (mo_some (me_var 3)))) (mss_one (ms_putSl (me_sortK hr t.n_sorted (me_var 4) t.tb_sorted_code t.c_sorted_code (mT_sorted_code q) (uT_sorted_code t) rfl (fun _ _ _ _ _ _ => rfl)) (me_var 1) (me_var 2) (me_var 3))))) (mss_one (ms_ret (me_call (ok_with_cells t) (hr.mono (by decide)) (fun h => nomatch h) t.d_with_cells.m t.d_with_cells.k t.d_with_cells.b (takes_of rfl rfl rfl rfl) (ma_cons (me_var 0) (ma_cons (me_var 1) (ma_nil)))))))
theorem ex_is_schedule : ∃ f : Ads → MSp, f = fun q => mDef 2 (mSeq (mDrop (mCall (sp_need_code q) [mVar 0])) (mRet (mAndV (mCall (sp_is_code q) [mVar 1]) (mOp fEq (mCall (sp_sorted_code q) [mVar 1]) (mCall (sp_sorted_code q) [mVar 0]))))) := ⟨_, rfl⟩
noncomputable def sp_is_schedule (q : Ads) : MSp := ex_is_schedule.choose q
theorem un_is_schedule (q : Ads) : sp_is_schedule q = mDef 2 (mSeq (mDrop (mCall (sp_need_code q) [mVar 0])) (mRet (mAndV (mCall (sp_is_code q) [mVar 1]) (mOp fEq (mCall (sp_sorted_code q) [mVar 1]) (mCall (sp_sorted_code q) [mVar 0]))))) := congrFun ex_is_schedule.choose_spec q
abbrev N_is_schedule : List Str := ["code", "value"]
theorem sc_is_schedule : FnScope N_is_schedule ["code", "value"] (defScope (top 40)) := ⟨rfl, rfl, rfl, by decide +kernel, rfl, by decide +kernel, by decide +kernel⟩
theorem ok_is_schedule (t : Txt K mg base q) : FnG P w K mg base (tT q) false 8 t.d_is_schedule.f t.d_is_schedule.fd ["code", "value"] 2 (sp_is_schedule q) := by
  rw [un_is_schedule]
  exact t.d_is_schedule.ok sc_is_schedule rfl fun A outer s H E hr gA =>
    mss_cons (ms_expr (me_call (ok_need_code t) (hr.mono (by decide)) (fun h => nomatch h) t.d_need_code.m t.d_need_code.k t.d_need_code.b (takes_of rfl rfl rfl rfl) (ma_cons (me_var 0) (ma_nil)))) (mss_one (ms_ret (me_and (me_call (ok_is_code t) (hr.mono (by decide)) (fun h => nomatch h) t.d_is_code.m t.d_is_code.k t.d_is_code.b (takes_of rfl rfl rfl rfl) (ma_cons (me_var 1) (ma_nil))) (me_one (me_cmp (op_eqM (u64 hr)) mo_eq (me_call (ok_sorted_code t) (hr.mono (by decide)) (fun h => nomatch h) t.d_sorted_code.m t.d_sorted_code.k t.d_sorted_code.b (takes_of rfl rfl rfl rfl) (ma_cons (me_var 1) (ma_nil))) (me_call (ok_sorted_code t) (hr.mono (by decide)) (fun h => nomatch h) t.d_sorted_code.m t.d_sorted_code.k t.d_sorted_code.b (takes_of rfl rfl rfl rfl) (ma_cons (me_var 0) (ma_nil))))))))
theorem ex_need_schedule : ∃ f : Ads → MSp, f = fun q => mDef 2 (mIfS (mNot (mVal (mCall (sp_is_schedule q) [mVar 0, mVar 1]))) (mRaise q.NotSchedule) (mNext)) := ⟨_, rfl⟩
noncomputable def sp_need_schedule (q : Ads) : MSp := ex_need_schedule.choose q
theorem un_need_schedule (q : Ads) : sp_need_schedule q = mDef 2 (mIfS (mNot (mVal (mCall (sp_is_schedule q) [mVar 0, mVar 1]))) (mRaise q.NotSchedule) (mNext)) := congrFun ex_need_schedule.choose_spec q
abbrev N_need_schedule : List Str := ["code", "other"]
theorem sc_need_schedule : FnScope N_need_schedule ["code", "other"] (defScope (top 41)) := ⟨rfl, rfl, rfl, by decide +kernel, rfl, by decide +kernel, by decide +kernel⟩
theorem ok_need_schedule (t : Txt K mg base q) : FnG P w K mg base (tT q) false 9 t.d_need_schedule.f t.d_need_schedule.fd ["code", "other"] 2 (sp_need_schedule q) := by
  rw [un_need_schedule]
  exact t.d_need_schedule.ok sc_need_schedule rfl fun A outer s H E hr gA =>
    mss_one (ms_if (mt_not (mt_val (me_call (ok_is_schedule t) (hr.mono (by decide)) (fun h => nomatch h) t.d_is_schedule.m t.d_is_schedule.k t.d_is_schedule.b (takes_of rfl rfl rfl rfl) (ma_cons (me_var 0) (ma_cons (me_var 1) (ma_nil)))))) (mss_one (ms_err rfl (takes_of rfl rfl rfl rfl) t.e_NotSchedule)) (mss_nil))
theorem ex_nth_of : ∃ f : Ads → MSp, f = fun q => mDef 6 (mSeq (mFor (miRg2 (mVar 1) (mVar 2)) (.nm 5) (mIfS (mVal (mOp fEq (mOp fIx (mOp fIx (mVar 0) (mVar 5)) (mC (.int 0))) (mVar 3))) (mSeq (mIfS (mVal (mOp fEq (mVar 4) (mC (.int 0)))) (mRet (mVar 5)) (mNext)) (mAsg (mOp fSub (mVar 4) (mC (.int 1))) (.nm 4))) (mNext))) (mRet (mVar 2))) := ⟨_, rfl⟩
noncomputable def sp_nth_of (q : Ads) : MSp := ex_nth_of.choose q
theorem un_nth_of (q : Ads) : sp_nth_of q = mDef 6 (mSeq (mFor (miRg2 (mVar 1) (mVar 2)) (.nm 5) (mIfS (mVal (mOp fEq (mOp fIx (mOp fIx (mVar 0) (mVar 5)) (mC (.int 0))) (mVar 3))) (mSeq (mIfS (mVal (mOp fEq (mVar 4) (mC (.int 0)))) (mRet (mVar 5)) (mNext)) (mAsg (mOp fSub (mVar 4) (mC (.int 1))) (.nm 4))) (mNext))) (mRet (mVar 2))) := congrFun ex_nth_of.choose_spec q
abbrev N_nth_of : List Str := ["cells", "first", "end", "hue", "count", "at"]
theorem sc_nth_of : FnScope N_nth_of ["cells", "first", "end", "hue", "count"] (defScope (top 42)) := ⟨rfl, rfl, rfl, by decide +kernel, rfl, by decide +kernel, by decide +kernel⟩
theorem ok_nth_of (t : Txt K mg base q) : FnG P w K mg base (tT q) false 1 t.d_nth_of.f t.d_nth_of.fd ["cells", "first", "end", "hue", "count"] 5 (sp_nth_of q) := by
  rw [un_nth_of]
  exact t.d_nth_of.ok sc_nth_of rfl fun A outer s H E hr gA =>
    mss_cons (ms_for (passes_of rfl) rfl (mi_rg2 t.n_range (me_var 1) (me_var 2)) (pg_name (i := 5) sc_nth_of.nd rfl (by first | exact Or.inl rfl | exact Or.inr rfl)) (gok_nm 5) (mss_one (ms_if (mt_cmp (op_eqM (u64 hr)) mo_eq (me_ix (me_ix (me_var 0) (me_var 5)) (me_int)) (me_var 3)) (mss_cons (ms_if (mt_cmp (op_eqM (u64 hr)) mo_eq (me_var 4) (me_int)) (mss_one (ms_ret (me_var 5))) (mss_nil)) (mss_one (ms_set 4 sc_nth_of.nd (me_op op_sub mo_sub (me_var 4) (me_int))))) (mss_nil)))) (mss_one (ms_ret (me_var 2)))
theorem ex_own_ahead : ∃ f : Ads → MSp, f = fun q => mDef 5 (mRet (mFn fLen [mLc (miSeq (mSl (mVar 0) (some (mVar 1)) (some (mVar 2)))) (.nm 4) (mVal (mOp fEq (mOp fIx (mVar 4) (mC (.int 0))) (mVar 3))) (mVar 4) [4]])) := ⟨_, rfl⟩
noncomputable def sp_own_ahead (q : Ads) : MSp := ex_own_ahead.choose q
theorem un_own_ahead (q : Ads) : sp_own_ahead q = mDef 5 (mRet (mFn fLen [mLc (miSeq (mSl (mVar 0) (some (mVar 1)) (some (mVar 2)))) (.nm 4) (mVal (mOp fEq (mOp fIx (mVar 4) (mC (.int 0))) (mVar 3))) (mVar 4) [4]])) := congrFun ex_own_ahead.choose_spec q
abbrev N_own_ahead : List Str := ["cells", "first", "at", "hue", "cell"]
theorem sc_own_ahead : FnScope N_own_ahead ["cells", "first", "at", "hue"] (defScope (top 43)) := ⟨rfl, rfl, rfl, by decide +kernel, rfl, by decide +kernel, by decide +kernel⟩
theorem ok_own_ahead (t : Txt K mg base q) : FnG P w K mg base (tT q) false 1 t.d_own_ahead.f t.d_own_ahead.fd ["cells", "first", "at", "hue"] 4 (sp_own_ahead q) := by
  rw [un_own_ahead]
  exact t.d_own_ahead.ok sc_own_ahead rfl fun A outer s H E hr gA =>
    mss_one (ms_ret (me_fnB call_lenM mf_len t.n_len (by decide +kernel) (ma_cons (me_lcI (own := [("cell", 4)]) rfl sc_own_ahead.nd (mi_seq (me_slice (me_var 0) (mo_some (me_var 1)) (mo_some (me_var 2)))) (gow_nm 4) (blkOk_by (N := N_own_ahead) (sc := defScope (top 43)) (by decide +kernel)) (fun _ _ _ _ _ => pg_name (i := 4) sc_own_ahead.nd rfl (by first | exact Or.inl rfl | exact Or.inr rfl)) (fun _ _ _ _ _ => mt_cmp (op_eqM (u64 hr)) mo_eq (me_ix (me_var 4) (me_int)) (me_var 3)) (fun _ _ _ _ _ => me_var 4)) (ma_nil))))
theorem ex_moved_spot : ∃ f : Ads → MSp, f = fun q => mDef 7 (mSeq (mAsg (mOp fIx (mVar 0) (mC (.int 2))) (.nm 3)) (mSeq (mFor (miSeq (mCall (sp_stretch_list q) [mVar 0])) (.tp [4, 5]) (mIfS (mVal (mChain fLe fLt (mVar 4) (mVar 2) (mVar 5))) (mSeq (mAsg (mOp fIx (mOp fIx (mVar 3) (mVar 2)) (mC (.int 0))) (.nm 6)) (mRet (mCall (sp_nth_of q) [mOp fIx (mVar 1) (mC (.int 2)), mVar 4, mVar 5, mVar 6, mCall (sp_own_ahead q) [mVar 3, mVar 4, mVar 2, mVar 6]]))) (mNext))) (mRet (mVar 2)))) := ⟨_, rfl⟩
noncomputable def sp_moved_spot (q : Ads) : MSp := ex_moved_spot.choose q
theorem un_moved_spot (q : Ads) : sp_moved_spot q = mDef 7 (mSeq (mAsg (mOp fIx (mVar 0) (mC (.int 2))) (.nm 3)) (mSeq (mFor (miSeq (mCall (sp_stretch_list q) [mVar 0])) (.tp [4, 5]) (mIfS (mVal (mChain fLe fLt (mVar 4) (mVar 2) (mVar 5))) (mSeq (mAsg (mOp fIx (mOp fIx (mVar 3) (mVar 2)) (mC (.int 0))) (.nm 6)) (mRet (mCall (sp_nth_of q) [mOp fIx (mVar 1) (mC (.int 2)), mVar 4, mVar 5, mVar 6, mCall (sp_own_ahead q) [mVar 3, mVar 4, mVar 2, mVar 6]]))) (mNext))) (mRet (mVar 2)))) := congrFun ex_moved_spot.choose_spec q
abbrev N_moved_spot : List Str := ["code", "other", "address", "cells", "first", "end", "hue"]
theorem sc_moved_spot : FnScope N_moved_spot ["code", "other", "address"] (defScope (top 44)) := ⟨rfl, rfl, rfl, by decide +kernel, rfl, by decide +kernel, by decide +kernel⟩
theorem ok_moved_spot (t : Txt K mg base q) : FnG P w K mg base (tT q) false 4 t.d_moved_spot.f t.d_moved_spot.fd ["code", "other", "address"] 3 (sp_moved_spot q) := by
  rw [un_moved_spot]
  exact t.d_moved_spot.ok sc_moved_spot rfl fun A outer s H E hr gA =>
    mss_cons (ms_set 3 sc_moved_spot.nd (me_ix (me_var 0) (me_int))) (mss_cons (ms_for (passes_of rfl) rfl (mi_seq (me_call (ok_stretch_list t) (hr.mono (by decide)) (fun h => nomatch h) t.d_stretch_list.m t.d_stretch_list.k t.d_stretch_list.b (takes_of rfl rfl rfl rfl) (ma_cons (me_var 0) (ma_nil)))) (pg_tup rfl (pgs_cons (pg_name (i := 4) sc_moved_spot.nd rfl (by first | exact Or.inl rfl | exact Or.inr rfl)) (pgs_cons (pg_name (i := 5) sc_moved_spot.nd rfl (by first | exact Or.inl rfl | exact Or.inr rfl)) (pgs_nil)))) (gok_tp [4, 5] rfl) (mss_one (ms_if (mt_chain op_le mo_le op_lt mo_lt (me_var 4) (me_var 2) (me_var 5)) (mss_cons (ms_set 6 sc_moved_spot.nd (me_ix (me_ix (me_var 3) (me_var 2)) (me_int))) (mss_one (ms_ret (me_call (ok_nth_of t) (hr.mono (by decide)) (fun h => nomatch h) t.d_nth_of.m t.d_nth_of.k t.d_nth_of.b (takes_of rfl rfl rfl rfl) (ma_cons (me_ix (me_var 1) (me_int)) (ma_cons (me_var 4) (ma_cons (me_var 5) (ma_cons (me_var 6) (ma_cons (me_call (ok_own_ahead t) (hr.mono (by decide)) (fun h => nomatch h) t.d_own_ahead.m t.d_own_ahead.k t.d_own_ahead.b (takes_of rfl rfl rfl rfl) (ma_cons (me_var 3) (ma_cons (me_var 4) (ma_cons (me_var 2) (ma_cons (me_var 6) (ma_nil)))))) (ma_nil)))))))))) (mss_nil)))) (mss_one (ms_ret (me_var 2))))
theorem ex_moved_address : ∃ f : Ads → MSp, f = fun q => mDef 3 (mSeq (mDrop (mCall (sp_need_code q) [mVar 0])) (mSeq (mDrop (mCall (sp_need_schedule q) [mVar 0, mVar 1])) (mSeq (mDrop (mCall (sp_need_address q) [mVar 0, mVar 2])) (mRet (mCall (sp_moved_spot q) [mVar 0, mVar 1, mVar 2]))))) := ⟨_, rfl⟩
noncomputable def sp_moved_address (q : Ads) : MSp := ex_moved_address.choose q
theorem un_moved_address (q : Ads) : sp_moved_address q = mDef 3 (mSeq (mDrop (mCall (sp_need_code q) [mVar 0])) (mSeq (mDrop (mCall (sp_need_schedule q) [mVar 0, mVar 1])) (mSeq (mDrop (mCall (sp_need_address q) [mVar 0, mVar 2])) (mRet (mCall (sp_moved_spot q) [mVar 0, mVar 1, mVar 2]))))) := congrFun ex_moved_address.choose_spec q
abbrev N_moved_address : List Str := ["code", "other", "address"]
theorem sc_moved_address : FnScope N_moved_address ["code", "other", "address"] (defScope (top 45)) := ⟨rfl, rfl, rfl, by decide +kernel, rfl, by decide +kernel, by decide +kernel⟩
theorem ok_moved_address (t : Txt K mg base q) : FnG P w K mg base (tT q) false 10 t.d_moved_address.f t.d_moved_address.fd ["code", "other", "address"] 3 (sp_moved_address q) := by
  rw [un_moved_address]
  exact t.d_moved_address.ok sc_moved_address rfl fun A outer s H E hr gA =>
    mss_cons (ms_expr (me_call (ok_need_code t) (hr.mono (by decide)) (fun h => nomatch h) t.d_need_code.m t.d_need_code.k t.d_need_code.b (takes_of rfl rfl rfl rfl) (ma_cons (me_var 0) (ma_nil)))) (mss_cons (ms_expr (me_call (ok_need_schedule t) (hr.mono (by decide)) (fun h => nomatch h) t.d_need_schedule.m t.d_need_schedule.k t.d_need_schedule.b (takes_of rfl rfl rfl rfl) (ma_cons (me_var 0) (ma_cons (me_var 1) (ma_nil))))) (mss_cons (ms_expr (me_call (ok_need_address t) (hr.mono (by decide)) (fun h => nomatch h) t.d_need_address.m t.d_need_address.k t.d_need_address.b (takes_of rfl rfl rfl rfl) (ma_cons (me_var 0) (ma_cons (me_var 2) (ma_nil))))) (mss_one (ms_ret (me_call (ok_moved_spot t) (hr.mono (by decide)) (fun h => nomatch h) t.d_moved_spot.m t.d_moved_spot.k t.d_moved_spot.b (takes_of rfl rfl rfl rfl) (ma_cons (me_var 0) (ma_cons (me_var 1) (ma_cons (me_var 2) (ma_nil)))))))))
theorem ex__law_begun : ∃ f : Ads → MSp, f = fun q => mDef 3 (mSeq (mAsg (mLc (miSeq (mVar 0)) (.nm 2) (mVal (mOp fGe (mFn (fI1 fun i => if i < 0 then -i else i) [mVar 2]) (mOp fPow (mC (.int 10)) (mC (.int 18))))) (mOp fSub (mFn (fI1 fun i => if i < 0 then -i else i) [mVar 2]) (mOp fPow (mC (.int 10)) (mC (.int 18)))) [2]) (.nm 1)) (mRet (mDict [(.inr "great", mVar 1), (.inr "cells", mLc (miSeq (mVar 0)) (.nm 2) mYes (mFn (fI1 fun i => if i < 0 then -i else i) [mVar 2]) [2]), (.inr "rest", mC (.int 0)), (.inr "turn", mC (.int 0))]))) := ⟨_, rfl⟩
noncomputable def sr__law_begun (q : Ads) : MSp := ex__law_begun.choose q
theorem un__law_begun (q : Ads) : sr__law_begun q = mDef 3 (mSeq (mAsg (mLc (miSeq (mVar 0)) (.nm 2) (mVal (mOp fGe (mFn (fI1 fun i => if i < 0 then -i else i) [mVar 2]) (mOp fPow (mC (.int 10)) (mC (.int 18))))) (mOp fSub (mFn (fI1 fun i => if i < 0 then -i else i) [mVar 2]) (mOp fPow (mC (.int 10)) (mC (.int 18)))) [2]) (.nm 1)) (mRet (mDict [(.inr "great", mVar 1), (.inr "cells", mLc (miSeq (mVar 0)) (.nm 2) mYes (mFn (fI1 fun i => if i < 0 then -i else i) [mVar 2]) [2]), (.inr "rest", mC (.int 0)), (.inr "turn", mC (.int 0))]))) := congrFun ex__law_begun.choose_spec q
abbrev N__law_begun : List Str := ["_law_script", "_law_great", "_law_cell"]
theorem sc__law_begun : FnScope N__law_begun ["_law_script"] (defScope (top 47)) := ⟨rfl, rfl, rfl, by decide +kernel, rfl, by decide +kernel, by decide +kernel⟩
theorem okr__law_begun (t : Txt K mg base q) : FnG P w K mg base (tT q) false 1 t.d__law_begun.f t.d__law_begun.fd ["_law_script"] 1 (sr__law_begun q) := by
  rw [un__law_begun]
  exact t.d__law_begun.ok sc__law_begun rfl fun A outer s H E hr gA =>
    mss_cons (ms_setLcI (i := 1) (own := [("_law_cell", 2)]) rfl sc__law_begun.nd (mi_seq (me_var 0)) (gow_nm 2) (blkOk_by (N := N__law_begun) (sc := defScope (top 47)) (by decide +kernel)) (fun _ _ _ _ _ => pg_name (i := 2) sc__law_begun.nd rfl (by first | exact Or.inl rfl | exact Or.inr rfl)) (fun _ _ _ _ _ => mt_cmp op_ge mo_ge (me_fnB call_abs mf_abs t.n_abs (by decide +kernel) (ma_cons (me_var 2) (ma_nil))) (me_op op_pow mo_pow (me_int) (me_int))) (fun _ _ _ _ _ => me_op op_sub mo_sub (me_fnB call_abs mf_abs t.n_abs (by decide +kernel) (ma_cons (me_var 2) (ma_nil))) (me_op op_pow mo_pow (me_int) (me_int)))) (mss_one (ms_ret (me_dict (mp_cons (kk := .inr "great") (me_str) (me_var 1) (mp_cons (kk := .inr "cells") (me_str) (me_lc (own := [("_law_cell", 2)]) rfl sc__law_begun.nd (mi_seq (me_var 0)) (gow_nm 2) (blkOk_by (N := N__law_begun) (sc := defScope (top 47)) (by decide +kernel)) (fun _ _ _ _ _ => pg_name (i := 2) sc__law_begun.nd rfl (by first | exact Or.inl rfl | exact Or.inr rfl)) (fun _ _ _ _ _ => me_fnB call_abs mf_abs t.n_abs (by decide +kernel) (ma_cons (me_var 2) (ma_nil)))) (mp_cons (kk := .inr "rest") (me_str) (me_int) (mp_cons (kk := .inr "turn") (me_str) (me_int) (mp_nil))))) (by decide))))
theorem ex__law_mixed : ∃ f : Ads → MSp, f = fun q => mDef 6 (mSeq (mAsg (mTup [mOp fAdd (mDGet (mVar 0) (mC (.str "turn"))) (mC (.int 1)), mC (.int 0)]) (.tp [2, 3])) (mSeq (mPut (mVar 2) (mVar 0) (mC (.str "turn"))) (mSeq (mFor (miSeq (mLst [mC (.int 2147483629), mC (.int 2147483647), mC (.int 2147483563), mC (.int 2147483587)])) (.nm 1) (mSeq (mAsg (mOp fAdd (mOp fMul (mC (.int 69621)) (mVar 2)) (mOp fDiv (mVar 1) (mC (.int 41)))) (.nm 4)) (mSeq (mFor (miSeq (mDGet (mVar 0) (mC (.str "cells")))) (.nm 5) (mAsg (mOp fMod (mFn (fI1 fun i => i) [mOp fAdd (mOp fAdd (mOp fMul (mVar 4) (mC (.int 48271))) (mVar 5)) (mVar 2)]) (mVar 1)) (.nm 4))) (mAsg (mOp fAdd (mOp fMul (mVar 3) (mC (.int 2147483659))) (mOp fMod (mFn (fI1 fun i => i) [mOp fPow (mVar 4) (mC (.int 5))]) (mVar 1))) (.nm 3))))) (mRet (mVar 3))))) := ⟨_, rfl⟩
noncomputable def sp__law_mixed (q : Ads) : MSp := ex__law_mixed.choose q
theorem un__law_mixed (q : Ads) : sp__law_mixed q = mDef 6 (mSeq (mAsg (mTup [mOp fAdd (mDGet (mVar 0) (mC (.str "turn"))) (mC (.int 1)), mC (.int 0)]) (.tp [2, 3])) (mSeq (mPut (mVar 2) (mVar 0) (mC (.str "turn"))) (mSeq (mFor (miSeq (mLst [mC (.int 2147483629), mC (.int 2147483647), mC (.int 2147483563), mC (.int 2147483587)])) (.nm 1) (mSeq (mAsg (mOp fAdd (mOp fMul (mC (.int 69621)) (mVar 2)) (mOp fDiv (mVar 1) (mC (.int 41)))) (.nm 4)) (mSeq (mFor (miSeq (mDGet (mVar 0) (mC (.str "cells")))) (.nm 5) (mAsg (mOp fMod (mFn (fI1 fun i => i) [mOp fAdd (mOp fAdd (mOp fMul (mVar 4) (mC (.int 48271))) (mVar 5)) (mVar 2)]) (mVar 1)) (.nm 4))) (mAsg (mOp fAdd (mOp fMul (mVar 3) (mC (.int 2147483659))) (mOp fMod (mFn (fI1 fun i => i) [mOp fPow (mVar 4) (mC (.int 5))]) (mVar 1))) (.nm 3))))) (mRet (mVar 3))))) := congrFun ex__law_mixed.choose_spec q
abbrev N__law_mixed : List Str := ["_law_state", "_law_prime", "_law_turn", "_law_found", "_law_blend", "_law_cell"]
theorem sc__law_mixed : FnScope N__law_mixed ["_law_state"] (defScope (top 48)) := ⟨rfl, rfl, rfl, by decide +kernel, rfl, by decide +kernel, by decide +kernel⟩
theorem ok__law_mixed (t : Txt K mg base q) : FnG P w K mg base (tT q) false 1 t.d__law_mixed.f t.d__law_mixed.fd ["_law_state"] 1 (sp__law_mixed q) := by
  rw [un__law_mixed]
  exact t.d__law_mixed.ok sc__law_mixed rfl fun A outer s H E hr gA =>
    mss_cons (ms_par 2 3 rfl sc__law_mixed.nd (ma_cons (me_op op_addM mo_add (me_dget (u1 hr) (me_var 0) (me_str)) (me_int)) (ma_cons (me_int) (ma_nil)))) (mss_cons (ms_put (u1 hr) (me_var 2) (me_var 0) (me_str)) (mss_cons (ms_for (passes_of rfl) rfl (mi_seq (me_lst (ma_cons (me_int) (ma_cons (me_int) (ma_cons (me_int) (ma_cons (me_int) (ma_nil))))))) (pg_name (i := 1) sc__law_mixed.nd rfl (by first | exact Or.inl rfl | exact Or.inr rfl)) (gok_nm 1) (mss_cons (ms_set 4 sc__law_mixed.nd (me_op op_addM mo_add (me_op op_mul mo_mul (me_int) (me_var 2)) (me_op op_fdiv mo_div (me_var 1) (me_int)))) (mss_cons (ms_for (passes_of rfl) rfl (mi_seq (me_dget (u1 hr) (me_var 0) (me_str))) (pg_name (i := 5) sc__law_mixed.nd rfl (by first | exact Or.inl rfl | exact Or.inr rfl)) (gok_nm 5) (mss_one (ms_set 4 sc__law_mixed.nd (me_op op_mod mo_mod (me_fnT call_int1 mf_int t.n_int (by decide +kernel) (ma_cons (me_op op_addM mo_add (me_op op_addM mo_add (me_op op_mul mo_mul (me_var 4) (me_int)) (me_var 5)) (me_var 2)) (ma_nil))) (me_var 1))))) (mss_one (ms_set 3 sc__law_mixed.nd (me_op op_addM mo_add (me_op op_mul mo_mul (me_var 3) (me_int)) (me_op op_mod mo_mod (me_fnT call_int1 mf_int t.n_int (by decide +kernel) (ma_cons (me_op op_pow mo_pow (me_var 4) (me_int)) (ma_nil))) (me_var 1)))))))) (mss_one (ms_ret (me_var 3)))))
theorem ex__law_draw : ∃ f : Ads → MSp, f = fun q => mDef 3 (mSeq (mIfS (mVal (mOp fEq (mDGet (mVar 0) (mC (.str "rest"))) (mC (.int 0)))) (mPut (mIf (mVal (mOp fNe (mDGet (mVar 0) (mC (.str "great"))) (mLst []))) (mMeth fPopAt (mDGet (mVar 0) (mC (.str "great"))) [mC (.int 0)]) (mCall (sp__law_mixed q) [mVar 0])) (mVar 0) (mC (.str "rest"))) (mNext)) (mSeq (mAsg (mOp fMod (mFn (fI1 fun i => i) [mDGet (mVar 0) (mC (.str "rest"))]) (mVar 1)) (.nm 2)) (mSeq (mPut (mOp fDiv (mDGet (mVar 0) (mC (.str "rest"))) (mVar 1)) (mVar 0) (mC (.str "rest"))) (mRet (mVar 2))))) := ⟨_, rfl⟩
noncomputable def sr__law_draw (q : Ads) : MSp := ex__law_draw.choose q
theorem un__law_draw (q : Ads) : sr__law_draw q = mDef 3 (mSeq (mIfS (mVal (mOp fEq (mDGet (mVar 0) (mC (.str "rest"))) (mC (.int 0)))) (mPut (mIf (mVal (mOp fNe (mDGet (mVar 0) (mC (.str "great"))) (mLst []))) (mMeth fPopAt (mDGet (mVar 0) (mC (.str "great"))) [mC (.int 0)]) (mCall (sp__law_mixed q) [mVar 0])) (mVar 0) (mC (.str "rest"))) (mNext)) (mSeq (mAsg (mOp fMod (mFn (fI1 fun i => i) [mDGet (mVar 0) (mC (.str "rest"))]) (mVar 1)) (.nm 2)) (mSeq (mPut (mOp fDiv (mDGet (mVar 0) (mC (.str "rest"))) (mVar 1)) (mVar 0) (mC (.str "rest"))) (mRet (mVar 2))))) := congrFun ex__law_draw.choose_spec q
abbrev N__law_draw : List Str := ["_law_state", "_law_room", "_law_found"]
theorem sc__law_draw : FnScope N__law_draw ["_law_state", "_law_room"] (defScope (top 49)) := ⟨rfl, rfl, rfl, by decide +kernel, rfl, by decide +kernel, by decide +kernel⟩
theorem okr__law_draw (t : Txt K mg base q) : FnG P w K mg base (tT q) false 2 t.d__law_draw.f t.d__law_draw.fd ["_law_state", "_law_room"] 2 (sr__law_draw q) := by
  rw [un__law_draw]
  exact t.d__law_draw.ok sc__law_draw rfl fun A outer s H E hr gA =>
    mss_cons (ms_if (mt_cmp (op_eqM (u64 hr)) mo_eq (me_dget (u1 hr) (me_var 0) (me_str)) (me_int)) (mss_one (ms_put (u1 hr) (me_if (mt_cmp (op_neM (u64 hr)) mo_ne (me_dget (u1 hr) (me_var 0) (me_str)) (me_lst (ma_nil))) (me_meth PySem.F.slot_list_pop PySem.F.type_list_pop mt_popAt met_popAt (me_dget (u1 hr) (me_var 0) (me_str)) (ma_cons (me_int) (ma_nil))) (me_call (ok__law_mixed t) (hr.mono (by decide)) (fun h => nomatch h) t.d__law_mixed.m t.d__law_mixed.k t.d__law_mixed.b (takes_of rfl rfl rfl rfl) (ma_cons (me_var 0) (ma_nil)))) (me_var 0) (me_str))) (mss_nil)) (mss_cons (ms_set 2 sc__law_draw.nd (me_op op_mod mo_mod (me_fnT call_int1 mf_int t.n_int (by decide +kernel) (ma_cons (me_dget (u1 hr) (me_var 0) (me_str)) (ma_nil))) (me_var 1))) (mss_cons (ms_put (u1 hr) (me_op op_fdiv mo_div (me_dget (u1 hr) (me_var 0) (me_str)) (me_var 1)) (me_var 0) (me_str)) (mss_one (ms_ret (me_var 2)))))
end
end K75


set_option Elab.async false
set_option linter.all false
set_option maxRecDepth 100000
set_option maxHeartbeats 8000000
namespace K75
open PySem PySem.Spec PyProof.Rows L2 ML
/-! ### the drawing of numbers -/
def sp__law_draw (q : Ads) : MSp := fun _ ws M R => match ws with
  | [.ref s, .int n] => ∃ m, M s = some (.drw (m + 1)) ∧ 0 < n ∧ n < 2 ^ 30 ∧ ∀ k, 0 ≤ k → k < n → R (.int k) (updM M s (.drw m))
  | _ => False
def sp__law_begun (q : Ads) : MSp := fun _ ws M R => match ws with
  | [.lsv xs] => (∃ ns : List Int, xs = ns.map W.int ∧ ns.length ≤ 63) ∧ (∀ b m, M b ≠ some (.drw m)) ∧ ∀ s, M s = none → R (.ref s) (updM M s (.drw 1000000000000))
  | _ => False
theorem get_great {g c : Addr} {r t : Int} : getW (stD g c r t) (.inr "great") = some (.ref g) := by rfl
theorem get_cells {g c : Addr} {r t : Int} : getW (stD g c r t) (.inr "cells") = some (.ref c) := by rfl
theorem get_rest {g c : Addr} {r t : Int} : getW (stD g c r t) (.inr "rest") = some (.int r) := by rfl
theorem get_turn {g c : Addr} {r t : Int} : getW (stD g c r t) (.inr "turn") = some (.int t) := by rfl
theorem put_rest {g c : Addr} {r t i : Int} : putW (stD g c r t) (.inr "rest") (.int i) = stD g c i t := by rfl
theorem put_turn {g c : Addr} {r t i : Int} : putW (stD g c r t) (.inr "turn") (.int i) = stD g c r i := by rfl
theorem len_stD {g c : Addr} {r t : Int} : (stD g c r t).length < sizeLine := by show 4 < sizeLine; decide
theorem L_mixed {q : Ads} {M : Mh} {s g c : Addr} {cs : List Int} {rest turn : Int} {RX : MX} {R : MK} (hs : M s = some (.dct (stD g c rest turn))) (hc : M c = some (.lst (cs.map W.int))) (ne : c ≠ s) (hn : ∀ i ∈ cs, 0 ≤ i) (ht : 0 ≤ turn) (hb : turn < 1099511627776)
    (k : ∀ v : Int, 0 ≤ v → R (.int v) (updM M s (.dct (stD g c rest (turn + 1))))) : sp__law_mixed q RX [.ref s] M R := by
  rw [un__law_mixed]
  simp only [mDef, mSeq, mAsg, mTup, mArgs, mOp, mDGet, mVar, mC, startM, List.map_cons, List.map_nil, List.length_cons, List.length_nil, keyOf, bindT, setAll, List.replicate, List.cons_append, List.nil_append, List.getElem?_cons_zero, List.getElem?_cons_succ, hs, get_turn, fAdd, List.set_cons_succ, List.set_cons_zero, if_true, Nat.zero_add, Nat.reduceAdd, Nat.reduceSub, mPut, put_turn, mFor, miSeq, mLst]
  refine ⟨len_stD, fun p hp => ?_⟩
  have ps : p ≠ s := fun z => by subst z; rw [updM_same] at hp; cases hp
  have pc : p ≠ c := fun z => by subst z; rw [updM_ne ne, hc] at hp; cases hp
  rw [updM_same]
  generalize hM2 : updM (updM M s (MO.dct (stD g c rest (turn + 1)))) p (MO.lst [W.int 2147483629, W.int 2147483647, W.int 2147483563, W.int 2147483587]) = M2
  have hs2 : M2 s = some (.dct (stD g c rest (turn + 1))) := by rw [← hM2, updM_ne ps.symm, updM_same]
  have hc2 : M2 c = some (.lst (cs.map W.int)) := by rw [← hM2, updM_ne pc.symm, updM_ne ne]; exact hc
  have hp2 : M2 p = some (MO.lst [W.int 2147483629, W.int 2147483647, W.int 2147483563, W.int 2147483587]) := by rw [← hM2, updM_same]
  have sub : Sub (updM M s (.dct (stD g c rest (turn + 1)))) M2 := by rw [← hM2]; exact sub_new hp
  refine forL_ind (fun _ e M' => M2 = M' ∧ ∃ (f : Int) (x1 x4 x5 : Option W), 0 ≤ f ∧ e = [some (.ref s), x1, some (.int (turn + 1)), some (.int f), x4, x5]) _ 0 _ _ ⟨rfl, 0, none, none, none, by decide, rfl⟩ ?_ ?_
  · rintro i w e M' kk hw ⟨rfl, f, x1, x4, x5, hf, rfl⟩ hk
    obtain ⟨pr, rfl, p0, p1⟩ : ∃ pr : Int, w = .int pr ∧ 0 < pr ∧ pr < 2147483648 := by
      have hm := List.mem_of_getElem? hw
      simp only [List.mem_cons, List.not_mem_nil, or_false] at hm
      rcases hm with rfl | rfl | rfl | rfl <;> exact ⟨_, rfl, by decide, by decide⟩
    refine ⟨hp2, _, rfl, ?_⟩
    simp only [mSeq, mAsg, mArgs, mOp, mDGet, mVar, mC, keyOf, bindT, List.getElem?_cons_zero, List.getElem?_cons_succ, hs2, hc2, get_cells, fAdd, fMul, fDiv, fII, fIIc, List.set_cons_succ, List.set_cons_zero, mFor, miSeq]
    refine ⟨.inl ⟨by decide, by decide⟩, ⟨by decide, by decide⟩, ?_⟩
    refine forL_ind (fun _ e M' => M2 = M' ∧ ∃ (b : Int) (x5 : Option W), (0 ≤ b ∧ b < 9223372036854775808) ∧ e = [some (.ref s), some (.int pr), some (.int (turn + 1)), some (.int f), some (.int b), x5]) _ 0 _ _ ⟨rfl, _, x5, ⟨by omega, by omega⟩, rfl⟩ ?_ ?_
    · rintro i w e M' kk hw ⟨rfl, b, x5, hb, rfl⟩ hk
      obtain ⟨z, hz, rfl⟩ := List.mem_map.mp (List.mem_of_getElem? hw)
      refine ⟨hc2, _, rfl, ?_⟩
      simp only [mAsg, mArgs, mOp, mVar, mC, bindT, List.getElem?_cons_zero, List.getElem?_cons_succ, fAdd, fMul, fMod, fII, fIIc, List.set_cons_succ, List.set_cons_zero, mFn, fI1]
      refine ⟨.inr ⟨by decide, by decide⟩, p0, hk _ _ ⟨rfl, _, _, ⟨Int.emod_nonneg _ (by omega), ?_⟩, rfl⟩⟩
      have := Int.emod_lt_of_pos (b * 48271 + z + (turn + 1)) p0
      omega
    · rintro e M' ⟨rfl, b, x5, hb, rfl⟩
      refine ⟨hc2, ?_⟩
      simp only [mAsg, mArgs, mOp, mVar, mC, bindT, List.getElem?_cons_zero, List.getElem?_cons_succ, fAdd, fMul, fMod, fPow, fII, fIIc, List.set_cons_succ, List.set_cons_zero, mFn, fI1]
      refine ⟨.inr ⟨by decide, by decide⟩, ⟨by decide, by decide, by omega⟩, p0, hk _ _ ⟨rfl, _, _, _, _, ?_, rfl⟩⟩
      have h1 := Int.emod_nonneg (b ^ (5 : Int).toNat) (show pr ≠ 0 by omega)
      have h2 : 0 ≤ f * 2147483659 := Int.mul_nonneg hf (by decide)
      exact Int.add_nonneg h2 h1
  · rintro e M' ⟨rfl, f, x1, x4, x5, hf, rfl⟩
    refine ⟨hp2, ?_⟩
    simp only [mRet, mVar, List.getElem?_cons_zero, List.getElem?_cons_succ]
    exact ⟨_, sub, k f hf⟩
theorem L_draw0 {q : Ads} {M : Mh} {s g c : Addr} {gs cs : List Int} {rest turn n : Int} {RX : MX} {R : MK} (hs : M s = some (.dct (stD g c rest turn))) (hg : M g = some (.lst (gs.map W.int))) (hc : M c = some (.lst (cs.map W.int))) (sg : s ≠ g) (sc : s ≠ c) (gc : g ≠ c)
    (ng : ∀ i ∈ gs, 0 ≤ i) (nc : ∀ i ∈ cs, 0 ≤ i) (nr : 0 ≤ rest) (nt : 0 ≤ turn) (hb : turn < 1099511627776) (n0 : 0 < n) (n1 : n < 1073741824)
    (k : ∀ (v : Int) (gs' : List Int) (rest' turn' : Int) (M' : Mh), 0 ≤ v → v < n → (∀ i ∈ gs', 0 ≤ i) → gs'.length ≤ gs.length → 0 ≤ rest' → 0 ≤ turn' → turn' ≤ turn + 1 → M' s = some (.dct (stD g c rest' turn')) → M' g = some (.lst (gs'.map W.int)) → M' c = some (.lst (cs.map W.int)) →
      (∀ a o, a ≠ s → a ≠ g → M a = some o → M' a = some o) → R (.int v) M') : sr__law_draw q RX [.ref s, .int n] M R := by
  -- the end of it
  have fin : ∀ (M1 : Mh) (gs' : List Int) (rest' turn' : Int) (x2 : Option W), (∀ i ∈ gs', 0 ≤ i) → gs'.length ≤ gs.length → 0 ≤ rest' → 0 ≤ turn' → turn' ≤ turn + 1 → M1 s = some (.dct (stD g c rest' turn')) → M1 g = some (.lst (gs'.map W.int)) → M1 c = some (.lst (cs.map W.int)) →
      (∀ a o, a ≠ s → a ≠ g → M a = some o → M1 a = some o) → (mSeq (mAsg (mOp fMod (mFn (fI1 fun i => i) [mDGet (mVar 0) (mC (.str "rest"))]) (mVar 1)) (.nm 2)) (mSeq (mPut (mOp fDiv (mDGet (mVar 0) (mC (.str "rest"))) (mVar 1)) (mVar 0) (mC (.str "rest"))) (mRet (mVar 2))))
        (fgX RX) { nx := fun _ M' => fg R .non M', rt := fg R } [some (.ref s), some (.int n), x2] M1 := by
    intro M1 gs' rest' turn' x2 a1 a2 a3 a4 a5 h1 h2 h3 h4
    simp only [mSeq, mAsg, mArgs, mOp, mDGet, mVar, mC, keyOf, bindT, List.getElem?_cons_zero, List.getElem?_cons_succ, h1, get_rest, fMod, fDiv, fIIc, List.set_cons_succ, List.set_cons_zero, mFn, fI1, mPut, put_rest, mRet]
    refine ⟨n0, ⟨n0, n1⟩, len_stD, _, Sub.refl, ?_⟩
    refine k _ gs' (rest' / n) turn' _ (Int.emod_nonneg _ (by omega)) (Int.emod_lt_of_pos _ n0) a1 a2 (Int.ediv_nonneg a3 (by omega)) a4 a5 updM_same (by rw [updM_ne sg.symm]; exact h2) (by rw [updM_ne sc.symm]; exact h3) fun a o e1 e2 e3 => ?_
    rw [updM_ne e1]
    exact h4 a o e1 e2 e3
  rw [un__law_draw]
  show (mSeq _ _) (fgX RX) _ [some (.ref s), some (.int n), none] M
  unfold mSeq
  simp only [mIfS, mVal, mOp, mDGet, mVar, mC, keyOf, List.getElem?_cons_zero, List.getElem?_cons_succ, hs, get_rest, fEq, eqW]
  by_cases h0 : rest = 0
  · rw [if_pos (decide_eq_true h0)]
    simp only [mPut, mIf, mVal, mOp, mDGet, mVar, mC, mLst, mArgs, keyOf, List.getElem?_cons_zero, List.getElem?_cons_succ, hs, get_great]
    intro p hp
    have ps : p ≠ s := fun z => by subst z; rw [hs] at hp; cases hp
    have pg : p ≠ g := fun z => by subst z; rw [hg] at hp; cases hp
    have pc : p ≠ c := fun z => by subst z; rw [hc] at hp; cases hp
    have hs1 : updM M p (.lst []) s = some (.dct (stD g c rest turn)) := by rw [updM_ne ps.symm]; exact hs
    have hg1 : updM M p (.lst []) g = some (.lst (gs.map W.int)) := by rw [updM_ne pg.symm]; exact hg
    have hc1 : updM M p (.lst []) c = some (.lst (cs.map W.int)) := by rw [updM_ne pc.symm]; exact hc
    have old : ∀ a o, M a = some o → updM M p (.lst []) a = some o := sub_new hp
    refine fNe_lst hg1 updM_same pl_ints (by simp) dp_ints (by simp) fun b hq => ?_
    cases gs with
    | nil =>
      have : b = false := by simpa using hq
      subst this
      simp only [if_neg (show ¬ (false = true) by decide), mCall, mArgs, mVar, List.getElem?_cons_zero]
      refine L_mixed hs1 hc1 sc.symm nc nt hb fun v hv => ?_
      simp only [updM_same, put_rest, updM_upd]
      refine ⟨len_stD, fin _ [] v (turn + 1) none (by simp) (by simp) hv (by omega) (Int.le_refl _) updM_same (by rw [updM_ne sg.symm]; exact hg1) (by rw [updM_ne sc.symm]; exact hc1) fun a o e1 _ e3 => ?_⟩
      rw [updM_ne e1]; exact old a o e3
    | cons x xs =>
      have : b = true := by simpa using hq
      subst this
      simp only [if_true, mMeth, mArgs, mDGet, mVar, mC, keyOf, List.getElem?_cons_zero, hs1, get_great, lstAt, hg1, Option.isSome_some, fPopAt, List.map_cons]
      refine ⟨trivial, by decide, by decide, ?_⟩
      simp only [Int.toNat_zero, List.getElem?_cons_zero, List.eraseIdx_cons_zero]
      have hs2 : updM (updM M p (.lst [])) g (.lst (xs.map W.int)) s = some (.dct (stD g c rest turn)) := by rw [updM_ne sg]; exact hs1
      simp only [hs2, put_rest]
      refine ⟨len_stD, fin _ xs x turn none (fun i hi => ng i (List.mem_cons_of_mem _ hi)) (Nat.le_succ _) (ng x List.mem_cons_self) nt (by omega) updM_same (by rw [updM_ne sg.symm, updM_same]) (by rw [updM_ne sc.symm, updM_ne gc.symm]; exact hc1) fun a o e1 e2 e3 => ?_⟩
      rw [updM_ne e1, updM_ne e2]; exact old a o e3
  · rw [if_neg (by simpa using h0)]
    exact fin M gs rest turn none ng (Nat.le_refl _) nr nt (by omega) hs hg hc fun a o _ _ e => e
section
variable {P : Program} {w : World} {K : PySem.W.Frag} {mg : Str → Option Value} {base : Heap} {q : Ads}
theorem ok__law_draw (t : Txt K mg base q) : FnG P w K mg base (tT q) false 2 t.d__law_draw.f t.d__law_draw.fd ["_law_state", "_law_room"] 2 (sp__law_draw q) := by
  have F : FnG P w K mg base (tT q) false 2 t.d__law_draw.f t.d__law_draw.fd ["_law_state", "_law_room"] 2 (sr__law_draw q) := okr__law_draw t
  refine ⟨F.len, fun A outer s H args us vs Q E hr gA e0 hb r hsp => F.run A outer s H args us vs Q E hr gA e0 hb r ?_⟩
  obtain ⟨RX, ws, M, R, lw, pw, rl, h, kR, kX⟩ := hsp
  unfold sp__law_draw at h
  split at h
  · rename_i st n
    obtain ⟨m, hM, n0, n1, hk⟩ := h
    obtain ⟨⟨g, c, gs, cs, rest, turn, d, ng, nc, bd⟩, un⟩ := rl.ob st _ hM
    obtain ⟨sg, sc, gc⟩ := drw_ne d
    obtain ⟨d1, d2, d3, d4, d5, d6, d7, d8, d9, d10⟩ := d
    have d : DrwAt H st g c gs cs rest turn := ⟨d1, d2, d3, d4, d5, d6, d7, d8, d9, d10⟩
    have bd : turn + ((m + 1 : Nat) : Int) ≤ 1099511627776 := bd
    refine ⟨fun _ _ => False, _, opened M st g c gs cs rest turn, fun w M' => ∃ (v : Int) (gs' : List Int) (rest' turn' : Int), w = .int v ∧ 0 ≤ v ∧ v < n ∧ turn' ≤ turn + 1 ∧ Left M M' st g c gs' cs rest' turn', lw, pw, rl.opened hM d ng nc un, ?_, fun w M' v H' x r' p hq => ?_, fun _ _ _ _ _ z => z.elim⟩
    · unfold opened
      refine L_draw0 updM_same (by rw [updM_ne sg.symm, updM_same]) (by rw [updM_ne sc.symm, updM_ne gc.symm, updM_same]) sg sc gc d5 d6 d7 d8 (by omega) n0 n1 fun v gs' rest' turn' M' a1 a2 a3 a4 a5 a6 a7 e1 e2 e3 e4 => ?_
      refine ⟨v, gs', rest', turn', rfl, a1, a2, a7, e1, e2, e3, fun a o z e => ?_, a3, d6, a5, a6, by omega, d10⟩
      have zg : a ≠ g := fun y => by subst y; rw [ng] at e; cases e
      have zc : a ≠ c := fun y => by subst y; rw [nc] at e; cases e
      exact e4 a o z zg (by rw [updM_ne z, updM_ne zg, updM_ne zc]; exact e)
    · obtain ⟨i, gs', rest', turn', rfl, a1, a2, a3, l⟩ := hq
      exact kR (.int i) _ v H' (l.ext rl r' x d hM un) (l.rel r' gc hM (by omega) ng nc un) p (hk i a1 a2)
  · exact h.elim
def fGr : W → W
  | .int i => .int ((if i < 0 then -i else i) - 1000000000000000000)
  | w => w
def pGr : W → Bool
  | .int i => decide (1000000000000000000 ≤ (if i < 0 then -i else i))
  | _ => false
def fAb : W → W
  | .int i => .int (if i < 0 then -i else i)
  | w => w
theorem ok__law_begun (t : Txt K mg base q) : FnG P w K mg base (tT q) false 1 t.d__law_begun.f t.d__law_begun.fd ["_law_script"] 1 (sp__law_begun q) := by
  have F : FnG P w K mg base (tT q) false 1 t.d__law_begun.f t.d__law_begun.fd ["_law_script"] 1 (sr__law_begun q) := okr__law_begun t
  refine ⟨F.len, fun A outer s H args us vs Q E hr gA e0 hb r hsp => F.run A outer s H args us vs Q E hr gA e0 hb r ?_⟩
  obtain ⟨RX, ws, M, R, lw, pw, rl, h, kR, kX⟩ := hsp
  unfold sp__law_begun at h
  split at h
  · rename_i xs
    obtain ⟨⟨ns, rfl, hl⟩, un, hk⟩ := h
    refine ⟨fun _ _ => False, _, M, fun w M' => ∃ (st g c : Addr) (gs cs : List Int), w = .ref st ∧ M st = none ∧ M g = none ∧ M c = none ∧ g ≠ st ∧ c ≠ st ∧ g ≠ c ∧ Left M M' st g c gs cs 0 0, lw, pw, rl, ?_, fun w M' v H' x r' p hq => ?_, fun _ _ _ _ _ z => z.elim⟩
    · have big : (10 : Int) ^ (18 : Int).toNat = 1000000000000000000 := by decide
      rw [un__law_begun]
      simp only [mDef, mSeq, mAsg, mLc, miSeq, mVar, startM, List.map_cons, List.map_nil, List.length_cons, List.length_nil, List.replicate, List.cons_append, List.nil_append, List.getElem?_cons_zero, wipeM, List.set_cons_succ, List.set_cons_zero, bindT, mRet, mDict, mPairs, List.getElem?_cons_succ, mC]
      refine ⟨by rw [List.length_map, sizeLine_eq]; omega, lcL_map fGr pGr trivial _ _ (fun w hw => ?_) ?_⟩
      · obtain ⟨i, _, rfl⟩ := List.mem_map.mp hw
        refine ⟨_, rfl, fun R hR => ?_, fun _ R hR => ?_⟩
        · simp only [mVal, mOp, mFn, mArgs, mVar, mC, List.getElem?_cons_zero, List.getElem?_cons_succ, fI1, fPow, fGe, fII, fIIc, big]
          exact ⟨⟨by decide, by decide, by decide⟩, hR⟩
        · simp only [mVal, mOp, mFn, mArgs, mVar, mC, List.getElem?_cons_zero, List.getElem?_cons_succ, fI1, fPow, fSub, fII, fIIc, big]
          exact ⟨⟨by decide, by decide, by decide⟩, hR⟩
      · intro g hg
        refine ⟨by rw [List.length_map, sizeLine_eq]; omega, lcL_map fAb (fun _ => true) trivial _ _ (fun w hw => ?_) ?_⟩
        · obtain ⟨i, _, rfl⟩ := List.mem_map.mp hw
          refine ⟨_, rfl, fun R hR => hR, fun _ R hR => ?_⟩
          simp only [mFn, mArgs, mVar, List.getElem?_cons_zero, List.getElem?_cons_succ, fI1]
          exact hR
        · intro c hc st hst
          rw [List.nil_append] at hc
          refine ⟨_, Sub.refl, ?_⟩
          have cg : c ≠ g := fun z => by subst z; rw [updM_same] at hc; cases hc
          have sg : st ≠ g := fun z => by
            subst z
            rw [updM_ne cg.symm, updM_same] at hst; cases hst
          have sc : st ≠ c := fun z => by subst z; rw [updM_same] at hst; cases hst
          rw [updM_ne cg] at hc
          rw [updM_ne sc, updM_ne sg] at hst
          have e1 : ((ns.map W.int).filter pGr).map fGr = ((ns.filter fun i => decide (1000000000000000000 ≤ (if i < 0 then -i else i))).map fun i => (if i < 0 then -i else i) - 1000000000000000000).map W.int := by
            rw [List.filter_map, List.map_map, List.map_map]
            rfl
          have e2 : ((ns.map W.int).filter fun _ => true).map fAb = (ns.map fun i => if i < 0 then -i else i).map W.int := by
            rw [List.filter_eq_self.mpr (fun _ _ => rfl), List.map_map, List.map_map]
            rfl
          rw [List.nil_append, List.nil_append, e1, e2]
          refine ⟨st, g, c, (ns.filter fun i => decide (1000000000000000000 ≤ (if i < 0 then -i else i))).map fun i => (if i < 0 then -i else i) - 1000000000000000000, ns.map fun i => if i < 0 then -i else i, rfl, hst, hg, hc, sg.symm, sc.symm, cg.symm, ?_⟩
          exact { at_s := by rw [updM_same]; rfl
                  at_g := by rw [updM_ne sg.symm, updM_ne cg.symm, updM_same]
                  at_c := by rw [updM_ne sc.symm, updM_same]
                  sub := fun a o z e => by
                    have zg : a ≠ g := fun y => by subst y; rw [hg] at e; cases e
                    have zc : a ≠ c := fun y => by subst y; rw [hc] at e; cases e
                    rw [updM_ne z, updM_ne zc, updM_ne zg]; exact e
                  ng := fun i hi => by
                    obtain ⟨j, hj, rfl⟩ := List.mem_map.mp hi
                    have := (List.mem_filter.mp hj).2
                    simp only [decide_eq_true_eq] at this
                    omega
                  nc := fun i hi => by
                    obtain ⟨j, hj, rfl⟩ := List.mem_map.mp hi
                    split <;> omega
                  nr := Int.le_refl _
                  nt := Int.le_refl _
                  lg := by rw [List.length_map]; exact Nat.le_trans (List.length_filter_le _ _) hl
                  lc := by rw [List.length_map]; exact hl }
    · obtain ⟨st, g, c, gs, cs, rfl, hs, hg, hc, n1, n2, n3, l⟩ := hq
      exact kR (.ref st) _ v H' (l.extN r' n3 x un) (l.relN r' n3 hs hg hc n1 n2 (by decide) un) p (hk st hs)
  · exact h.elim
end
end K75


set_option Elab.async false
set_option linter.all false
set_option maxRecDepth 100000
set_option maxHeartbeats 8000000
namespace K75
open PySem PySem.Spec PyProof.Rows L2 ML

section
variable {P : Program} {w : World} {K : PySem.W.Frag} {mg : Str → Option Value} {base : Heap} {q : Ads}
theorem ex__law_pick : ∃ f : Ads → MSp, f = fun q => mDef 2 (mRet (mOp fIx (mVar 1) (mCall (sp__law_draw q) [mVar 0, mFn fLen [mVar 1]]))) := ⟨_, rfl⟩
noncomputable def sp__law_pick (q : Ads) : MSp := ex__law_pick.choose q
theorem un__law_pick (q : Ads) : sp__law_pick q = mDef 2 (mRet (mOp fIx (mVar 1) (mCall (sp__law_draw q) [mVar 0, mFn fLen [mVar 1]]))) := congrFun ex__law_pick.choose_spec q
abbrev N__law_pick : List Str := ["_law_state", "_law_some"]
theorem sc__law_pick : FnScope N__law_pick ["_law_state", "_law_some"] (defScope (top 50)) := ⟨rfl, rfl, rfl, by decide +kernel, rfl, by decide +kernel, by decide +kernel⟩
theorem ok__law_pick (t : Txt K mg base q) : FnG P w K mg base (tT q) false 3 t.d__law_pick.f t.d__law_pick.fd ["_law_state", "_law_some"] 2 (sp__law_pick q) := by
  rw [un__law_pick]
  exact t.d__law_pick.ok sc__law_pick rfl fun A outer s H E hr gA =>
    mss_one (ms_ret (me_ix (me_var 1) (me_call (ok__law_draw t) (hr.mono (by decide)) (fun h => nomatch h) t.d__law_draw.m t.d__law_draw.k t.d__law_draw.b (takes_of rfl rfl rfl rfl) (ma_cons (me_var 0) (ma_cons (me_fnB call_lenM mf_len t.n_len (by decide +kernel) (ma_cons (me_var 1) (ma_nil))) (ma_nil))))))
abbrev N__law_caught : List Str := ["_law_action", "_law_found", "error"]
theorem sc__law_caught : FnScope N__law_caught ["_law_action"] (defScope (top 51)) := ⟨rfl, rfl, rfl, by decide +kernel, rfl, by decide +kernel, by decide +kernel⟩
theorem ex__law_number : ∃ f : Ads → MSp, f = fun q => mDef 2 (mRet (mOp fMod (mCall (sp__law_pick q) [mVar 0, mLst [mC (.int 0), mC (.int 1), mC (.int 1), mC (.int 0), mC (.int 2), mC (.int 3), mOp fSub (mVar 1) (mC (.int 1)), mC (.int 4), mCall (sp__law_draw q) [mVar 0, mVar 1]]]) (mVar 1))) := ⟨_, rfl⟩
noncomputable def sp__law_number (q : Ads) : MSp := ex__law_number.choose q
theorem un__law_number (q : Ads) : sp__law_number q = mDef 2 (mRet (mOp fMod (mCall (sp__law_pick q) [mVar 0, mLst [mC (.int 0), mC (.int 1), mC (.int 1), mC (.int 0), mC (.int 2), mC (.int 3), mOp fSub (mVar 1) (mC (.int 1)), mC (.int 4), mCall (sp__law_draw q) [mVar 0, mVar 1]]]) (mVar 1))) := congrFun ex__law_number.choose_spec q
abbrev N__law_number : List Str := ["_law_state", "_law_size_here"]
theorem sc__law_number : FnScope N__law_number ["_law_state", "_law_size_here"] (defScope (top 52)) := ⟨rfl, rfl, rfl, by decide +kernel, rfl, by decide +kernel, by decide +kernel⟩
theorem ok__law_number (t : Txt K mg base q) : FnG P w K mg base (tT q) false 4 t.d__law_number.f t.d__law_number.fd ["_law_state", "_law_size_here"] 2 (sp__law_number q) := by
  rw [un__law_number]
  exact t.d__law_number.ok sc__law_number rfl fun A outer s H E hr gA =>
    mss_one (ms_ret (me_op op_mod mo_mod (me_call (ok__law_pick t) (hr.mono (by decide)) (fun h => nomatch h) t.d__law_pick.m t.d__law_pick.k t.d__law_pick.b (takes_of rfl rfl rfl rfl) (ma_cons (me_var 0) (ma_cons (me_lst (ma_cons (me_int) (ma_cons (me_int) (ma_cons (me_int) (ma_cons (me_int) (ma_cons (me_int) (ma_cons (me_int) (ma_cons (me_op op_sub mo_sub (me_var 1) (me_int)) (ma_cons (me_int) (ma_cons (me_call (ok__law_draw t) (hr.mono (by decide)) (fun h => nomatch h) t.d__law_draw.m t.d__law_draw.k t.d__law_draw.b (takes_of rfl rfl rfl rfl) (ma_cons (me_var 0) (ma_cons (me_var 1) (ma_nil)))) (ma_nil))))))))))) (ma_nil)))) (me_var 1)))
theorem ex__law_size : ∃ f : Ads → MSp, f = fun q => mDef 1 (mRet (mCall (sp__law_pick q) [mVar 0, mLst [mC (.int 10), mC (.int 10000), mC (.int 7), mC (.int 2), mC (.int 100), mC (.int 16), mC (.int 3), mC (.int 255)]])) := ⟨_, rfl⟩
noncomputable def sp__law_size (q : Ads) : MSp := ex__law_size.choose q
theorem un__law_size (q : Ads) : sp__law_size q = mDef 1 (mRet (mCall (sp__law_pick q) [mVar 0, mLst [mC (.int 10), mC (.int 10000), mC (.int 7), mC (.int 2), mC (.int 100), mC (.int 16), mC (.int 3), mC (.int 255)]])) := congrFun ex__law_size.choose_spec q
abbrev N__law_size : List Str := ["_law_state"]
theorem sc__law_size : FnScope N__law_size ["_law_state"] (defScope (top 53)) := ⟨rfl, rfl, rfl, by decide +kernel, rfl, by decide +kernel, by decide +kernel⟩
theorem ok__law_size (t : Txt K mg base q) : FnG P w K mg base (tT q) false 4 t.d__law_size.f t.d__law_size.fd ["_law_state"] 1 (sp__law_size q) := by
  rw [un__law_size]
  exact t.d__law_size.ok sc__law_size rfl fun A outer s H E hr gA =>
    mss_one (ms_ret (me_call (ok__law_pick t) (hr.mono (by decide)) (fun h => nomatch h) t.d__law_pick.m t.d__law_pick.k t.d__law_pick.b (takes_of rfl rfl rfl rfl) (ma_cons (me_var 0) (ma_cons (me_lst (ma_cons (me_int) (ma_cons (me_int) (ma_cons (me_int) (ma_cons (me_int) (ma_cons (me_int) (ma_cons (me_int) (ma_cons (me_int) (ma_cons (me_int) (ma_nil)))))))))) (ma_nil)))))
theorem ex__law_votes : ∃ f : Ads → MSp, f = fun q => mDef 5 (mSeq (mAsg (mTup [mCall (sp__law_pick q) [mVar 0, mLst [mC (.int 3), mC (.int 2), mC (.int 3), mC (.int 1), mC (.int 5), mC (.int 4), mC (.int 2)]], mLst []]) (.tp [2, 3])) (mSeq (mFor (miRg2 (mC (.int 1)) (mOp fAdd (mVar 2) (mC (.int 1)))) (.nm 1) (mSeq (mAsg (mOp fAdd (mOp fDiv (mVar 1) (mC (.int 2))) (mC (.int 1))) (.nm 4)) (mDrop (mMeth fAppend (mVar 3) [mCall (sp__law_pick q) [mVar 0, mLst [mVar 4, mVar 1, mOp fAdd (mVar 4) (mCall (sp__law_draw q) [mVar 0, mOp fSub (mVar 1) (mOp fDiv (mVar 1) (mC (.int 2)))])]]])))) (mRet (mFn fTuple [mVar 3])))) := ⟨_, rfl⟩
noncomputable def sp__law_votes (q : Ads) : MSp := ex__law_votes.choose q
theorem un__law_votes (q : Ads) : sp__law_votes q = mDef 5 (mSeq (mAsg (mTup [mCall (sp__law_pick q) [mVar 0, mLst [mC (.int 3), mC (.int 2), mC (.int 3), mC (.int 1), mC (.int 5), mC (.int 4), mC (.int 2)]], mLst []]) (.tp [2, 3])) (mSeq (mFor (miRg2 (mC (.int 1)) (mOp fAdd (mVar 2) (mC (.int 1)))) (.nm 1) (mSeq (mAsg (mOp fAdd (mOp fDiv (mVar 1) (mC (.int 2))) (mC (.int 1))) (.nm 4)) (mDrop (mMeth fAppend (mVar 3) [mCall (sp__law_pick q) [mVar 0, mLst [mVar 4, mVar 1, mOp fAdd (mVar 4) (mCall (sp__law_draw q) [mVar 0, mOp fSub (mVar 1) (mOp fDiv (mVar 1) (mC (.int 2)))])]]])))) (mRet (mFn fTuple [mVar 3])))) := congrFun ex__law_votes.choose_spec q
abbrev N__law_votes : List Str := ["_law_state", "_law_width", "_law_hues", "_law_found", "_law_least"]
theorem sc__law_votes : FnScope N__law_votes ["_law_state"] (defScope (top 54)) := ⟨rfl, rfl, rfl, by decide +kernel, rfl, by decide +kernel, by decide +kernel⟩
theorem ok__law_votes (t : Txt K mg base q) : FnG P w K mg base (tT q) false 4 t.d__law_votes.f t.d__law_votes.fd ["_law_state"] 1 (sp__law_votes q) := by
  rw [un__law_votes]
  exact t.d__law_votes.ok sc__law_votes rfl fun A outer s H E hr gA =>
    mss_cons (ms_par 2 3 rfl sc__law_votes.nd (ma_cons (me_call (ok__law_pick t) (hr.mono (by decide)) (fun h => nomatch h) t.d__law_pick.m t.d__law_pick.k t.d__law_pick.b (takes_of rfl rfl rfl rfl) (ma_cons (me_var 0) (ma_cons (me_lst (ma_cons (me_int) (ma_cons (me_int) (ma_cons (me_int) (ma_cons (me_int) (ma_cons (me_int) (ma_cons (me_int) (ma_cons (me_int) (ma_nil))))))))) (ma_nil)))) (ma_cons (me_lst (ma_nil)) (ma_nil)))) (mss_cons (ms_for (passes_of rfl) rfl (mi_rg2 t.n_range (me_int) (me_op op_addM mo_add (me_var 2) (me_int))) (pg_name (i := 1) sc__law_votes.nd rfl (by first | exact Or.inl rfl | exact Or.inr rfl)) (gok_nm 1) (mss_cons (ms_set 4 sc__law_votes.nd (me_op op_addM mo_add (me_op op_fdiv mo_div (me_var 1) (me_int)) (me_int))) (mss_one (ms_expr (me_meth PySem.F.slot_list_append PySem.F.type_list_append mt_append met_append (me_var 3) (ma_cons (me_call (ok__law_pick t) (hr.mono (by decide)) (fun h => nomatch h) t.d__law_pick.m t.d__law_pick.k t.d__law_pick.b (takes_of rfl rfl rfl rfl) (ma_cons (me_var 0) (ma_cons (me_lst (ma_cons (me_var 4) (ma_cons (me_var 1) (ma_cons (me_op op_addM mo_add (me_var 4) (me_call (ok__law_draw t) (hr.mono (by decide)) (fun h => nomatch h) t.d__law_draw.m t.d__law_draw.k t.d__law_draw.b (takes_of rfl rfl rfl rfl) (ma_cons (me_var 0) (ma_cons (me_op op_sub mo_sub (me_var 1) (me_op op_fdiv mo_div (me_var 1) (me_int))) (ma_nil))))) (ma_nil))))) (ma_nil)))) (ma_nil))))))) (mss_one (ms_ret (me_fnT call_tuple_of mf_tuple t.n_tuple (by decide +kernel) (ma_cons (me_var 3) (ma_nil))))))
theorem ex__law_two_words : ∃ f : Ads → MSp, f = fun q => mDef 0 (mRet (mLst [mC (.str "plus"), mC (.str "minus"), mC (.str "times"), mC (.str "rest"), mC (.str "less"), mC (.str "same"), mC (.str "plus"), mC (.str "minus")])) := ⟨_, rfl⟩
noncomputable def sp__law_two_words (q : Ads) : MSp := ex__law_two_words.choose q
theorem un__law_two_words (q : Ads) : sp__law_two_words q = mDef 0 (mRet (mLst [mC (.str "plus"), mC (.str "minus"), mC (.str "times"), mC (.str "rest"), mC (.str "less"), mC (.str "same"), mC (.str "plus"), mC (.str "minus")])) := congrFun ex__law_two_words.choose_spec q
abbrev N__law_two_words : List Str := []
theorem sc__law_two_words : FnScope N__law_two_words [] (defScope (top 55)) := ⟨rfl, rfl, rfl, by decide +kernel, rfl, by decide +kernel, by decide +kernel⟩
theorem ok__law_two_words (t : Txt K mg base q) : FnG P w K mg base (tT q) false 1 t.d__law_two_words.f t.d__law_two_words.fd [] 0 (sp__law_two_words q) := by
  rw [un__law_two_words]
  exact t.d__law_two_words.ok sc__law_two_words rfl fun A outer s H E hr gA =>
    mss_one (ms_ret (me_lst (ma_cons (me_str) (ma_cons (me_str) (ma_cons (me_str) (ma_cons (me_str) (ma_cons (me_str) (ma_cons (me_str) (ma_cons (me_str) (ma_cons (me_str) (ma_nil)))))))))))
theorem ex__law_plain_step : ∃ f : Ads → MSp, f = fun q => mDef 9 (mSeq (mAsg (mCall (sp__law_draw q) [mVar 0, mC (.int 6)]) (.nm 3)) (mSeq (mAsg (mTup [mCall (sp__law_draw q) [mVar 0, mC (.int 4)], mCall (sp__law_draw q) [mVar 0, mC (.int 4)], mCall (sp__law_draw q) [mVar 0, mC (.int 4)]]) (.tp [4, 5, 6])) (mSeq (mIfS (mOr (mVal (mOp fEq (mVar 3) (mC (.int 0)))) (mAnd (mVal (mOp fEq (mVar 2) (mC (.int 0)))) (mVal (mOp fGt (mVar 3) (mC (.int 3)))))) (mRet (mTup [mC (.str "set"), mVar 4, mCall (sp__law_number q) [mVar 0, mVar 1]])) (mNext)) (mSeq (mIfS (mVal (mOp fGt (mVar 3) (mC (.int 3)))) (mSeq (mAsg (mCall (sp__law_draw q) [mVar 0, mVar 2]) (.nm 7)) (mSeq (mAsg (mOp fAdd (mC (.int 1)) (mCall (sp__law_draw q) [mVar 0, mOp fSub (mVar 2) (mVar 7)])) (.nm 8)) (mRet (mTup [mCall (sp__law_pick q) [mVar 0, mLst [mC (.str "get"), mC (.str "put")]], mVar 4, mVar 5, mVar 7, mVar 8])))) (mNext)) (mRet (mTup [mCall (sp__law_pick q) [mVar 0, mCall (sp__law_two_words q) []], mVar 4, mVar 5, mVar 6])))))) := ⟨_, rfl⟩
noncomputable def sp__law_plain_step (q : Ads) : MSp := ex__law_plain_step.choose q
theorem un__law_plain_step (q : Ads) : sp__law_plain_step q = mDef 9 (mSeq (mAsg (mCall (sp__law_draw q) [mVar 0, mC (.int 6)]) (.nm 3)) (mSeq (mAsg (mTup [mCall (sp__law_draw q) [mVar 0, mC (.int 4)], mCall (sp__law_draw q) [mVar 0, mC (.int 4)], mCall (sp__law_draw q) [mVar 0, mC (.int 4)]]) (.tp [4, 5, 6])) (mSeq (mIfS (mOr (mVal (mOp fEq (mVar 3) (mC (.int 0)))) (mAnd (mVal (mOp fEq (mVar 2) (mC (.int 0)))) (mVal (mOp fGt (mVar 3) (mC (.int 3)))))) (mRet (mTup [mC (.str "set"), mVar 4, mCall (sp__law_number q) [mVar 0, mVar 1]])) (mNext)) (mSeq (mIfS (mVal (mOp fGt (mVar 3) (mC (.int 3)))) (mSeq (mAsg (mCall (sp__law_draw q) [mVar 0, mVar 2]) (.nm 7)) (mSeq (mAsg (mOp fAdd (mC (.int 1)) (mCall (sp__law_draw q) [mVar 0, mOp fSub (mVar 2) (mVar 7)])) (.nm 8)) (mRet (mTup [mCall (sp__law_pick q) [mVar 0, mLst [mC (.str "get"), mC (.str "put")]], mVar 4, mVar 5, mVar 7, mVar 8])))) (mNext)) (mRet (mTup [mCall (sp__law_pick q) [mVar 0, mCall (sp__law_two_words q) []], mVar 4, mVar 5, mVar 6])))))) := congrFun ex__law_plain_step.choose_spec q
abbrev N__law_plain_step : List Str := ["_law_state", "_law_size_here", "_law_bank", "_law_way", "_law_b", "_law_c", "_law_d", "_law_base", "_law_length"]
theorem sc__law_plain_step : FnScope N__law_plain_step ["_law_state", "_law_size_here", "_law_bank"] (defScope (top 56)) := ⟨rfl, rfl, rfl, by decide +kernel, rfl, by decide +kernel, by decide +kernel⟩
theorem ok__law_plain_step (t : Txt K mg base q) : FnG P w K mg base (tT q) false 5 t.d__law_plain_step.f t.d__law_plain_step.fd ["_law_state", "_law_size_here", "_law_bank"] 3 (sp__law_plain_step q) := by
  rw [un__law_plain_step]
  exact t.d__law_plain_step.ok sc__law_plain_step rfl fun A outer s H E hr gA =>
    mss_cons (ms_set 3 sc__law_plain_step.nd (me_call (ok__law_draw t) (hr.mono (by decide)) (fun h => nomatch h) t.d__law_draw.m t.d__law_draw.k t.d__law_draw.b (takes_of rfl rfl rfl rfl) (ma_cons (me_var 0) (ma_cons (me_int) (ma_nil))))) (mss_cons (ms_par3 4 5 6 rfl sc__law_plain_step.nd (ma_cons (me_call (ok__law_draw t) (hr.mono (by decide)) (fun h => nomatch h) t.d__law_draw.m t.d__law_draw.k t.d__law_draw.b (takes_of rfl rfl rfl rfl) (ma_cons (me_var 0) (ma_cons (me_int) (ma_nil)))) (ma_cons (me_call (ok__law_draw t) (hr.mono (by decide)) (fun h => nomatch h) t.d__law_draw.m t.d__law_draw.k t.d__law_draw.b (takes_of rfl rfl rfl rfl) (ma_cons (me_var 0) (ma_cons (me_int) (ma_nil)))) (ma_cons (me_call (ok__law_draw t) (hr.mono (by decide)) (fun h => nomatch h) t.d__law_draw.m t.d__law_draw.k t.d__law_draw.b (takes_of rfl rfl rfl rfl) (ma_cons (me_var 0) (ma_cons (me_int) (ma_nil)))) (ma_nil))))) (mss_cons (ms_if (mt_bool (mw_or (mt_cmp (op_eqM (u64 hr)) mo_eq (me_var 3) (me_int)) (mw_or1 (mt_bool (mw_and (mt_cmp (op_eqM (u64 hr)) mo_eq (me_var 2) (me_int)) (mw_and1 (mt_cmp op_gt mo_gt (me_var 3) (me_int)))))))) (mss_one (ms_ret (me_tup (ma_cons (me_str) (ma_cons (me_var 4) (ma_cons (me_call (ok__law_number t) (hr.mono (by decide)) (fun h => nomatch h) t.d__law_number.m t.d__law_number.k t.d__law_number.b (takes_of rfl rfl rfl rfl) (ma_cons (me_var 0) (ma_cons (me_var 1) (ma_nil)))) (ma_nil))))))) (mss_nil)) (mss_cons (ms_if (mt_cmp op_gt mo_gt (me_var 3) (me_int)) (mss_cons (ms_set 7 sc__law_plain_step.nd (me_call (ok__law_draw t) (hr.mono (by decide)) (fun h => nomatch h) t.d__law_draw.m t.d__law_draw.k t.d__law_draw.b (takes_of rfl rfl rfl rfl) (ma_cons (me_var 0) (ma_cons (me_var 2) (ma_nil))))) (mss_cons (ms_set 8 sc__law_plain_step.nd (me_op op_addM mo_add (me_int) (me_call (ok__law_draw t) (hr.mono (by decide)) (fun h => nomatch h) t.d__law_draw.m t.d__law_draw.k t.d__law_draw.b (takes_of rfl rfl rfl rfl) (ma_cons (me_var 0) (ma_cons (me_op op_sub mo_sub (me_var 2) (me_var 7)) (ma_nil)))))) (mss_one (ms_ret (me_tup (ma_cons (me_call (ok__law_pick t) (hr.mono (by decide)) (fun h => nomatch h) t.d__law_pick.m t.d__law_pick.k t.d__law_pick.b (takes_of rfl rfl rfl rfl) (ma_cons (me_var 0) (ma_cons (me_lst (ma_cons (me_str) (ma_cons (me_str) (ma_nil)))) (ma_nil)))) (ma_cons (me_var 4) (ma_cons (me_var 5) (ma_cons (me_var 7) (ma_cons (me_var 8) (ma_nil))))))))))) (mss_nil)) (mss_one (ms_ret (me_tup (ma_cons (me_call (ok__law_pick t) (hr.mono (by decide)) (fun h => nomatch h) t.d__law_pick.m t.d__law_pick.k t.d__law_pick.b (takes_of rfl rfl rfl rfl) (ma_cons (me_var 0) (ma_cons (me_call0 (ok__law_two_words t) (hr.mono (by decide)) (fun h => nomatch h) t.d__law_two_words.m t.d__law_two_words.k t.d__law_two_words.b (takes_of rfl rfl rfl rfl)) (ma_nil)))) (ma_cons (me_var 4) (ma_cons (me_var 5) (ma_cons (me_var 6) (ma_nil)))))))))))
theorem ex__law_laid : ∃ f : Ads → MSp, f = fun q => mDef 9 (mSeq (mAsg (mLc (miRg1 (mVar 1)) (.nm 7) mYes (mLc (miSeq (mVar 2)) (.nm 8) mYes (mOp fAdd (mTup [mVar 7]) (mVar 8)) [8]) [7]) (.nm 3)) (mSeq (mAsg (mLst []) (.nm 4)) (mSeq (mIfS (mVal (mOp fEq (mCall (sp__law_draw q) [mVar 0, mC (.int 2)]) (mC (.int 0)))) (mSeq (mFor (miSeq (mVar 3)) (.nm 5) (mAsg (mOp fAdd (mVar 4) (mVar 5)) (.nm 4))) (mRet (mVar 4))) (mNext)) (mSeq (mWhile (mVal (mOp fNe (mLc (miSeq (mVar 3)) (.nm 5) (mVal (mOp fNe (mVar 5) (mLst []))) (mVar 5) [5]) (mLst []))) (mSeq (mAsg (mLc (miSeq (mVar 3)) (.nm 5) (mVal (mOp fNe (mVar 5) (mLst []))) (mVar 5) [5]) (.nm 6)) (mDrop (mMeth fAppend (mVar 4) [mMeth fPopAt (mCall (sp__law_pick q) [mVar 0, mVar 6]) [mC (.int 0)]])))) (mRet (mVar 4)))))) := ⟨_, rfl⟩
noncomputable def sp__law_laid (q : Ads) : MSp := ex__law_laid.choose q
theorem un__law_laid (q : Ads) : sp__law_laid q = mDef 9 (mSeq (mAsg (mLc (miRg1 (mVar 1)) (.nm 7) mYes (mLc (miSeq (mVar 2)) (.nm 8) mYes (mOp fAdd (mTup [mVar 7]) (mVar 8)) [8]) [7]) (.nm 3)) (mSeq (mAsg (mLst []) (.nm 4)) (mSeq (mIfS (mVal (mOp fEq (mCall (sp__law_draw q) [mVar 0, mC (.int 2)]) (mC (.int 0)))) (mSeq (mFor (miSeq (mVar 3)) (.nm 5) (mAsg (mOp fAdd (mVar 4) (mVar 5)) (.nm 4))) (mRet (mVar 4))) (mNext)) (mSeq (mWhile (mVal (mOp fNe (mLc (miSeq (mVar 3)) (.nm 5) (mVal (mOp fNe (mVar 5) (mLst []))) (mVar 5) [5]) (mLst []))) (mSeq (mAsg (mLc (miSeq (mVar 3)) (.nm 5) (mVal (mOp fNe (mVar 5) (mLst []))) (mVar 5) [5]) (.nm 6)) (mDrop (mMeth fAppend (mVar 4) [mMeth fPopAt (mCall (sp__law_pick q) [mVar 0, mVar 6]) [mC (.int 0)]])))) (mRet (mVar 4)))))) := congrFun ex__law_laid.choose_spec q
abbrev N__law_laid : List Str := ["_law_state", "_law_hues", "_law_steps", "_law_left", "_law_found", "_law_one", "_law_some", "_law_hue", "_law_step"]
theorem sc__law_laid : FnScope N__law_laid ["_law_state", "_law_hues", "_law_steps"] (defScope (top 57)) := ⟨rfl, rfl, rfl, by decide +kernel, rfl, by decide +kernel, by decide +kernel⟩
theorem ok__law_laid (t : Txt K mg base q) : FnG P w K mg base (tT q) false 4 t.d__law_laid.f t.d__law_laid.fd ["_law_state", "_law_hues", "_law_steps"] 3 (sp__law_laid q) := by
  rw [un__law_laid]
  exact t.d__law_laid.ok sc__law_laid rfl fun A outer s H E hr gA =>
    mss_cons (ms_setLc (i := 3) (own := [("_law_hue", 7)]) rfl sc__law_laid.nd (mi_rg1 t.n_range (me_var 1)) (gow_nm 7) (blkOk_by (N := N__law_laid) (sc := defScope (top 57)) (by decide +kernel)) (fun _ _ _ _ _ => pg_name (i := 7) sc__law_laid.nd rfl (by first | exact Or.inl rfl | exact Or.inr rfl)) (fun _ _ _ _ _ => me_lc (own := [("_law_step", 8)]) rfl sc__law_laid.nd (mi_seq (me_var 2)) (gow_nm 8) (blkOk_by (by rfl)) (fun _ _ _ _ _ => pg_name (i := 8) sc__law_laid.nd rfl (by first | exact Or.inl rfl | exact Or.inr rfl)) (fun _ _ _ _ _ => me_op op_addM mo_add (me_tup (ma_cons (me_var 7) (ma_nil))) (me_var 8)))) (mss_cons (ms_set 4 sc__law_laid.nd (me_lst (ma_nil))) (mss_cons (ms_if (mt_cmp (op_eqM (u64 hr)) mo_eq (me_call (ok__law_draw t) (hr.mono (by decide)) (fun h => nomatch h) t.d__law_draw.m t.d__law_draw.k t.d__law_draw.b (takes_of rfl rfl rfl rfl) (ma_cons (me_var 0) (ma_cons (me_int) (ma_nil)))) (me_int)) (mss_cons (ms_for (passes_of rfl) rfl (mi_seq (me_var 3)) (pg_name (i := 5) sc__law_laid.nd rfl (by first | exact Or.inl rfl | exact Or.inr rfl)) (gok_nm 5) (mss_one (ms_set 4 sc__law_laid.nd (me_op op_addM mo_add (me_var 4) (me_var 5))))) (mss_one (ms_ret (me_var 4)))) (mss_nil)) (mss_cons (ms_while (passes_of rfl) (mt_cmp (op_neM (u64 hr)) mo_ne (me_lcI (own := [("_law_one", 5)]) rfl sc__law_laid.nd (mi_seq (me_var 3)) (gow_nm 5) (blkOk_by (N := N__law_laid) (sc := defScope (top 57)) (by decide +kernel)) (fun _ _ _ _ _ => pg_name (i := 5) sc__law_laid.nd rfl (by first | exact Or.inl rfl | exact Or.inr rfl)) (fun _ _ _ _ _ => mt_cmp (op_neM (u64 hr)) mo_ne (me_var 5) (me_lst (ma_nil))) (fun _ _ _ _ _ => me_var 5)) (me_lst (ma_nil))) (mss_cons (ms_setLcI (i := 6) (own := [("_law_one", 5)]) rfl sc__law_laid.nd (mi_seq (me_var 3)) (gow_nm 5) (blkOk_by (N := N__law_laid) (sc := defScope (top 57)) (by decide +kernel)) (fun _ _ _ _ _ => pg_name (i := 5) sc__law_laid.nd rfl (by first | exact Or.inl rfl | exact Or.inr rfl)) (fun _ _ _ _ _ => mt_cmp (op_neM (u64 hr)) mo_ne (me_var 5) (me_lst (ma_nil))) (fun _ _ _ _ _ => me_var 5)) (mss_one (ms_expr (me_meth PySem.F.slot_list_append PySem.F.type_list_append mt_append met_append (me_var 4) (ma_cons (me_meth PySem.F.slot_list_pop PySem.F.type_list_pop mt_popAt met_popAt (me_call (ok__law_pick t) (hr.mono (by decide)) (fun h => nomatch h) t.d__law_pick.m t.d__law_pick.k t.d__law_pick.b (takes_of rfl rfl rfl rfl) (ma_cons (me_var 0) (ma_cons (me_var 6) (ma_nil)))) (ma_cons (me_int) (ma_nil))) (ma_nil))))))) (mss_one (ms_ret (me_var 4))))))
theorem ex__law_code_blocks : ∃ f : Ads → MSp, f = fun q => mDef 6 (mSeq (mAsg (mLst []) (.nm 2)) (mSeq (mFor (miRg1 (mVar 1)) (.nm 3) (mSeq (mAsg (mIf (mVal (mOp fEq (mVar 3) (mOp fSub (mVar 1) (mC (.int 1))))) (mC (.str "stop")) (mCall (sp__law_pick q) [mVar 0, mLst [mC (.str "show"), mC (.str "show"), mC (.str "turn"), mC (.str "take"), mC (.str "goto"), mC (.str "show")]])) (.nm 4)) (mSeq (mAsg (mIf (mVal (mOp fLt (mVar 3) (mOp fSub (mVar 1) (mC (.int 1))))) (mCall (sp__law_pick q) [mVar 0, mLst [mOp fAdd (mVar 3) (mC (.int 1)), mOp fSub (mVar 1) (mC (.int 1)), mCall (sp__law_draw q) [mVar 0, mVar 1]]]) (mC (.int 0))) (.nm 5)) (mDrop (mMeth fAppend (mVar 2) [mTup [mVar 4, mVar 5]]))))) (mRet (mVar 2)))) := ⟨_, rfl⟩
noncomputable def sp__law_code_blocks (q : Ads) : MSp := ex__law_code_blocks.choose q
theorem un__law_code_blocks (q : Ads) : sp__law_code_blocks q = mDef 6 (mSeq (mAsg (mLst []) (.nm 2)) (mSeq (mFor (miRg1 (mVar 1)) (.nm 3) (mSeq (mAsg (mIf (mVal (mOp fEq (mVar 3) (mOp fSub (mVar 1) (mC (.int 1))))) (mC (.str "stop")) (mCall (sp__law_pick q) [mVar 0, mLst [mC (.str "show"), mC (.str "show"), mC (.str "turn"), mC (.str "take"), mC (.str "goto"), mC (.str "show")]])) (.nm 4)) (mSeq (mAsg (mIf (mVal (mOp fLt (mVar 3) (mOp fSub (mVar 1) (mC (.int 1))))) (mCall (sp__law_pick q) [mVar 0, mLst [mOp fAdd (mVar 3) (mC (.int 1)), mOp fSub (mVar 1) (mC (.int 1)), mCall (sp__law_draw q) [mVar 0, mVar 1]]]) (mC (.int 0))) (.nm 5)) (mDrop (mMeth fAppend (mVar 2) [mTup [mVar 4, mVar 5]]))))) (mRet (mVar 2)))) := congrFun ex__law_code_blocks.choose_spec q
abbrev N__law_code_blocks : List Str := ["_law_state", "_law_blocks", "_law_found", "_law_at", "_law_kind", "_law_goal"]
theorem sc__law_code_blocks : FnScope N__law_code_blocks ["_law_state", "_law_blocks"] (defScope (top 58)) := ⟨rfl, rfl, rfl, by decide +kernel, rfl, by decide +kernel, by decide +kernel⟩
theorem ok__law_code_blocks (t : Txt K mg base q) : FnG P w K mg base (tT q) false 4 t.d__law_code_blocks.f t.d__law_code_blocks.fd ["_law_state", "_law_blocks"] 2 (sp__law_code_blocks q) := by
  rw [un__law_code_blocks]
  exact t.d__law_code_blocks.ok sc__law_code_blocks rfl fun A outer s H E hr gA =>
    mss_cons (ms_set 2 sc__law_code_blocks.nd (me_lst (ma_nil))) (mss_cons (ms_for (passes_of rfl) rfl (mi_rg1 t.n_range (me_var 1)) (pg_name (i := 3) sc__law_code_blocks.nd rfl (by first | exact Or.inl rfl | exact Or.inr rfl)) (gok_nm 3) (mss_cons (ms_set 4 sc__law_code_blocks.nd (me_if (mt_cmp (op_eqM (u64 hr)) mo_eq (me_var 3) (me_op op_sub mo_sub (me_var 1) (me_int))) (me_str) (me_call (ok__law_pick t) (hr.mono (by decide)) (fun h => nomatch h) t.d__law_pick.m t.d__law_pick.k t.d__law_pick.b (takes_of rfl rfl rfl rfl) (ma_cons (me_var 0) (ma_cons (me_lst (ma_cons (me_str) (ma_cons (me_str) (ma_cons (me_str) (ma_cons (me_str) (ma_cons (me_str) (ma_cons (me_str) (ma_nil)))))))) (ma_nil)))))) (mss_cons (ms_set 5 sc__law_code_blocks.nd (me_if (mt_cmp op_lt mo_lt (me_var 3) (me_op op_sub mo_sub (me_var 1) (me_int))) (me_call (ok__law_pick t) (hr.mono (by decide)) (fun h => nomatch h) t.d__law_pick.m t.d__law_pick.k t.d__law_pick.b (takes_of rfl rfl rfl rfl) (ma_cons (me_var 0) (ma_cons (me_lst (ma_cons (me_op op_addM mo_add (me_var 3) (me_int)) (ma_cons (me_op op_sub mo_sub (me_var 1) (me_int)) (ma_cons (me_call (ok__law_draw t) (hr.mono (by decide)) (fun h => nomatch h) t.d__law_draw.m t.d__law_draw.k t.d__law_draw.b (takes_of rfl rfl rfl rfl) (ma_cons (me_var 0) (ma_cons (me_var 1) (ma_nil)))) (ma_nil))))) (ma_nil)))) (me_int))) (mss_one (ms_expr (me_meth PySem.F.slot_list_append PySem.F.type_list_append mt_append met_append (me_var 2) (ma_cons (me_tup (ma_cons (me_var 4) (ma_cons (me_var 5) (ma_nil)))) (ma_nil)))))))) (mss_one (ms_ret (me_var 2))))
theorem ex__law_sure_code : ∃ f : Ads → MSp, f = fun q => mDef 15 (mSeq (mAsg (mTup [mFn fLen [mVar 1], mCall (sp__law_pick q) [mVar 0, mLst [mC (.int 3), mC (.int 0), mC (.int 1), mC (.int 5)]]]) (.tp [4, 5])) (mSeq (mAsg (mTup [mLst [], mLst [], mLst []]) (.tp [6, 7, 8])) (mSeq (mFor (miSeq (mCall (sp__law_code_blocks q) [mVar 0, mCall (sp__law_pick q) [mVar 0, mLst [mC (.int 3), mC (.int 4), mC (.int 2), mC (.int 6)]]])) (.tp [9, 10]) (mSeq (mDrop (mMeth fAppend (mVar 7) [mFn fLen [mVar 6]])) (mSeq (mAsg (mLc (miRg1 (mCall (sp__law_pick q) [mVar 0, mLst [mC (.int 2), mC (.int 1), mC (.int 3), mC (.int 4)]])) (.nm 13) mYes (mCall (sp__law_plain_step q) [mVar 0, mVar 2, mVar 5]) [13]) (.nm 11)) (mSeq (mIfS (mVal (mOp fIn (mVar 9) (mLst [mC (.str "show"), mC (.str "turn")]))) (mDrop (mMeth fAppend (mVar 11) [mTup [mC (.str "offer"), mCall (sp__law_draw q) [mVar 0, mC (.int 4)]]])) (mNext)) (mSeq (mAsg (mOp fAdd (mVar 6) (mCall (sp__law_laid q) [mVar 0, mVar 4, mVar 11])) (.nm 6)) (mSeq (mDrop (mMeth fAppend (mVar 8) [mTup [mFn fLen [mVar 6], mVar 9, mVar 10]])) (mDrop (mMeth fAppend (mVar 6) [mC .non])))))))) (mSeq (mFor (miSeq (mVar 8)) (.tp [12, 9, 10]) (mIfS (mVal (mOp fEq (mVar 9) (mC (.str "show")))) (mPut (mTup [mC (.str "show"), mCall (sp__law_pick q) [mVar 0, mLst [mC (.int 0), mC (.int 1), mC (.int 5)]], mVar 4]) (mVar 6) (mVar 12)) (mIfS (mVal (mOp fEq (mVar 9) (mC (.str "take")))) (mPut (mTup [mC (.str "take"), mCall (sp__law_draw q) [mVar 0, mC (.int 4)], mVar 4]) (mVar 6) (mVar 12)) (mIfS (mVal (mOp fEq (mVar 9) (mC (.str "turn")))) (mPut (mTup [mC (.str "turn"), mOp fIx (mVar 7) (mVar 10), mVar 4]) (mVar 6) (mVar 12)) (mPut (mIf (mVal (mOp fEq (mVar 9) (mC (.str "goto")))) (mTup [mC (.str "goto"), mOp fIx (mVar 7) (mVar 10)]) (mTup [mC (.str "stop")])) (mVar 6) (mVar 12)))))) (mSeq (mAsg (mFn fTuple [mLc (miRg1 (mVar 5)) (.nm 14) mYes (mCall (sp__law_number q) [mVar 0, mVar 2]) [14]]) (.nm 3)) (mRet (mTup [mVar 1, mVar 2, mFn fTuple [mVar 6], mVar 3]))))))) := ⟨_, rfl⟩
noncomputable def sp__law_sure_code (q : Ads) : MSp := ex__law_sure_code.choose q
theorem un__law_sure_code (q : Ads) : sp__law_sure_code q = mDef 15 (mSeq (mAsg (mTup [mFn fLen [mVar 1], mCall (sp__law_pick q) [mVar 0, mLst [mC (.int 3), mC (.int 0), mC (.int 1), mC (.int 5)]]]) (.tp [4, 5])) (mSeq (mAsg (mTup [mLst [], mLst [], mLst []]) (.tp [6, 7, 8])) (mSeq (mFor (miSeq (mCall (sp__law_code_blocks q) [mVar 0, mCall (sp__law_pick q) [mVar 0, mLst [mC (.int 3), mC (.int 4), mC (.int 2), mC (.int 6)]]])) (.tp [9, 10]) (mSeq (mDrop (mMeth fAppend (mVar 7) [mFn fLen [mVar 6]])) (mSeq (mAsg (mLc (miRg1 (mCall (sp__law_pick q) [mVar 0, mLst [mC (.int 2), mC (.int 1), mC (.int 3), mC (.int 4)]])) (.nm 13) mYes (mCall (sp__law_plain_step q) [mVar 0, mVar 2, mVar 5]) [13]) (.nm 11)) (mSeq (mIfS (mVal (mOp fIn (mVar 9) (mLst [mC (.str "show"), mC (.str "turn")]))) (mDrop (mMeth fAppend (mVar 11) [mTup [mC (.str "offer"), mCall (sp__law_draw q) [mVar 0, mC (.int 4)]]])) (mNext)) (mSeq (mAsg (mOp fAdd (mVar 6) (mCall (sp__law_laid q) [mVar 0, mVar 4, mVar 11])) (.nm 6)) (mSeq (mDrop (mMeth fAppend (mVar 8) [mTup [mFn fLen [mVar 6], mVar 9, mVar 10]])) (mDrop (mMeth fAppend (mVar 6) [mC .non])))))))) (mSeq (mFor (miSeq (mVar 8)) (.tp [12, 9, 10]) (mIfS (mVal (mOp fEq (mVar 9) (mC (.str "show")))) (mPut (mTup [mC (.str "show"), mCall (sp__law_pick q) [mVar 0, mLst [mC (.int 0), mC (.int 1), mC (.int 5)]], mVar 4]) (mVar 6) (mVar 12)) (mIfS (mVal (mOp fEq (mVar 9) (mC (.str "take")))) (mPut (mTup [mC (.str "take"), mCall (sp__law_draw q) [mVar 0, mC (.int 4)], mVar 4]) (mVar 6) (mVar 12)) (mIfS (mVal (mOp fEq (mVar 9) (mC (.str "turn")))) (mPut (mTup [mC (.str "turn"), mOp fIx (mVar 7) (mVar 10), mVar 4]) (mVar 6) (mVar 12)) (mPut (mIf (mVal (mOp fEq (mVar 9) (mC (.str "goto")))) (mTup [mC (.str "goto"), mOp fIx (mVar 7) (mVar 10)]) (mTup [mC (.str "stop")])) (mVar 6) (mVar 12)))))) (mSeq (mAsg (mFn fTuple [mLc (miRg1 (mVar 5)) (.nm 14) mYes (mCall (sp__law_number q) [mVar 0, mVar 2]) [14]]) (.nm 3)) (mRet (mTup [mVar 1, mVar 2, mFn fTuple [mVar 6], mVar 3]))))))) := congrFun ex__law_sure_code.choose_spec q
abbrev N__law_sure_code : List Str := ["_law_state", "_law_votes_here", "_law_size_here", "_law_first", "_law_hues", "_law_bank", "_law_cells", "_law_heads", "_law_ends", "_law_kind", "_law_goal", "_law_steps", "_law_at", "_law_turn", "_law_spot"]
theorem sc__law_sure_code : FnScope N__law_sure_code ["_law_state", "_law_votes_here", "_law_size_here"] (defScope (top 59)) := ⟨rfl, rfl, rfl, by decide +kernel, rfl, by decide +kernel, by decide +kernel⟩
theorem ok__law_sure_code (t : Txt K mg base q) : FnG P w K mg base (tT q) false 6 t.d__law_sure_code.f t.d__law_sure_code.fd ["_law_state", "_law_votes_here", "_law_size_here"] 3 (sp__law_sure_code q) := by
  rw [un__law_sure_code]
  exact t.d__law_sure_code.ok sc__law_sure_code rfl fun A outer s H E hr gA =>
    mss_cons (ms_asg (me_tup (ma_cons (me_fnB call_lenM mf_len t.n_len (by decide +kernel) (ma_cons (me_var 1) (ma_nil))) (ma_cons (me_call (ok__law_pick t) (hr.mono (by decide)) (fun h => nomatch h) t.d__law_pick.m t.d__law_pick.k t.d__law_pick.b (takes_of rfl rfl rfl rfl) (ma_cons (me_var 0) (ma_cons (me_lst (ma_cons (me_int) (ma_cons (me_int) (ma_cons (me_int) (ma_cons (me_int) (ma_nil)))))) (ma_nil)))) (ma_nil)))) (pg_tup rfl (pgs_cons (pg_name (i := 4) sc__law_sure_code.nd rfl (by first | exact Or.inl rfl | exact Or.inr rfl)) (pgs_cons (pg_name (i := 5) sc__law_sure_code.nd rfl (by first | exact Or.inl rfl | exact Or.inr rfl)) (pgs_nil)))) (gok_tp [4, 5] rfl)) (mss_cons (ms_par3 6 7 8 rfl sc__law_sure_code.nd (ma_cons (me_lst (ma_nil)) (ma_cons (me_lst (ma_nil)) (ma_cons (me_lst (ma_nil)) (ma_nil))))) (mss_cons (ms_for (passes_of rfl) rfl (mi_seq (me_call (ok__law_code_blocks t) (hr.mono (by decide)) (fun h => nomatch h) t.d__law_code_blocks.m t.d__law_code_blocks.k t.d__law_code_blocks.b (takes_of rfl rfl rfl rfl) (ma_cons (me_var 0) (ma_cons (me_call (ok__law_pick t) (hr.mono (by decide)) (fun h => nomatch h) t.d__law_pick.m t.d__law_pick.k t.d__law_pick.b (takes_of rfl rfl rfl rfl) (ma_cons (me_var 0) (ma_cons (me_lst (ma_cons (me_int) (ma_cons (me_int) (ma_cons (me_int) (ma_cons (me_int) (ma_nil)))))) (ma_nil)))) (ma_nil))))) (pg_tup rfl (pgs_cons (pg_name (i := 9) sc__law_sure_code.nd rfl (by first | exact Or.inl rfl | exact Or.inr rfl)) (pgs_cons (pg_name (i := 10) sc__law_sure_code.nd rfl (by first | exact Or.inl rfl | exact Or.inr rfl)) (pgs_nil)))) (gok_tp [9, 10] rfl) (mss_cons (ms_expr (me_meth PySem.F.slot_list_append PySem.F.type_list_append mt_append met_append (me_var 7) (ma_cons (me_fnB call_lenM mf_len t.n_len (by decide +kernel) (ma_cons (me_var 6) (ma_nil))) (ma_nil)))) (mss_cons (ms_setLc (i := 11) (own := [("_law_turn", 13)]) rfl sc__law_sure_code.nd (mi_rg1 t.n_range (me_call (ok__law_pick t) (hr.mono (by decide)) (fun h => nomatch h) t.d__law_pick.m t.d__law_pick.k t.d__law_pick.b (takes_of rfl rfl rfl rfl) (ma_cons (me_var 0) (ma_cons (me_lst (ma_cons (me_int) (ma_cons (me_int) (ma_cons (me_int) (ma_cons (me_int) (ma_nil)))))) (ma_nil))))) (gow_nm 13) (blkOk_by (N := N__law_sure_code) (sc := defScope (top 59)) (by decide +kernel)) (fun _ _ _ _ _ => pg_name (i := 13) sc__law_sure_code.nd rfl (by first | exact Or.inl rfl | exact Or.inr rfl)) (fun _ _ _ _ _ => me_call (ok__law_plain_step t) (hr.mono (by decide)) (fun h => nomatch h) t.d__law_plain_step.m t.d__law_plain_step.k t.d__law_plain_step.b (LamX.takes0) (ma_cons (me_var 0) (ma_cons (me_var 2) (ma_cons (me_var 5) (ma_nil)))))) (mss_cons (ms_if (mt_cmp (op_inM (u64 hr)) mo_in (me_var 9) (me_lst (ma_cons (me_str) (ma_cons (me_str) (ma_nil))))) (mss_one (ms_expr (me_meth PySem.F.slot_list_append PySem.F.type_list_append mt_append met_append (me_var 11) (ma_cons (me_tup (ma_cons (me_str) (ma_cons (me_call (ok__law_draw t) (hr.mono (by decide)) (fun h => nomatch h) t.d__law_draw.m t.d__law_draw.k t.d__law_draw.b (takes_of rfl rfl rfl rfl) (ma_cons (me_var 0) (ma_cons (me_int) (ma_nil)))) (ma_nil)))) (ma_nil))))) (mss_nil)) (mss_cons (ms_set 6 sc__law_sure_code.nd (me_op op_addM mo_add (me_var 6) (me_call (ok__law_laid t) (hr.mono (by decide)) (fun h => nomatch h) t.d__law_laid.m t.d__law_laid.k t.d__law_laid.b (takes_of rfl rfl rfl rfl) (ma_cons (me_var 0) (ma_cons (me_var 4) (ma_cons (me_var 11) (ma_nil))))))) (mss_cons (ms_expr (me_meth PySem.F.slot_list_append PySem.F.type_list_append mt_append met_append (me_var 8) (ma_cons (me_tup (ma_cons (me_fnB call_lenM mf_len t.n_len (by decide +kernel) (ma_cons (me_var 6) (ma_nil))) (ma_cons (me_var 9) (ma_cons (me_var 10) (ma_nil))))) (ma_nil)))) (mss_one (ms_expr (me_meth PySem.F.slot_list_append PySem.F.type_list_append mt_append met_append (me_var 6) (ma_cons (me_non) (ma_nil))))))))))) (mss_cons (ms_for (passes_of rfl) rfl (mi_seq (me_var 8)) (pg_tup rfl (pgs_cons (pg_name (i := 12) sc__law_sure_code.nd rfl (by first | exact Or.inl rfl | exact Or.inr rfl)) (pgs_cons (pg_name (i := 9) sc__law_sure_code.nd rfl (by first | exact Or.inl rfl | exact Or.inr rfl)) (pgs_cons (pg_name (i := 10) sc__law_sure_code.nd rfl (by first | exact Or.inl rfl | exact Or.inr rfl)) (pgs_nil))))) (gok_tp [12, 9, 10] rfl) (mss_one (ms_if (mt_cmp (op_eqM (u64 hr)) mo_eq (me_var 9) (me_str)) (mss_one (ms_put (u1 hr) (me_tup (ma_cons (me_str) (ma_cons (me_call (ok__law_pick t) (hr.mono (by decide)) (fun h => nomatch h) t.d__law_pick.m t.d__law_pick.k t.d__law_pick.b (takes_of rfl rfl rfl rfl) (ma_cons (me_var 0) (ma_cons (me_lst (ma_cons (me_int) (ma_cons (me_int) (ma_cons (me_int) (ma_nil))))) (ma_nil)))) (ma_cons (me_var 4) (ma_nil))))) (me_var 6) (me_var 12))) (mss_one (ms_if (mt_cmp (op_eqM (u64 hr)) mo_eq (me_var 9) (me_str)) (mss_one (ms_put (u1 hr) (me_tup (ma_cons (me_str) (ma_cons (me_call (ok__law_draw t) (hr.mono (by decide)) (fun h => nomatch h) t.d__law_draw.m t.d__law_draw.k t.d__law_draw.b (takes_of rfl rfl rfl rfl) (ma_cons (me_var 0) (ma_cons (me_int) (ma_nil)))) (ma_cons (me_var 4) (ma_nil))))) (me_var 6) (me_var 12))) (mss_one (ms_if (mt_cmp (op_eqM (u64 hr)) mo_eq (me_var 9) (me_str)) (mss_one (ms_put (u1 hr) (me_tup (ma_cons (me_str) (ma_cons (me_ix (me_var 7) (me_var 10)) (ma_cons (me_var 4) (ma_nil))))) (me_var 6) (me_var 12))) (mss_one (ms_put (u1 hr) (me_if (mt_cmp (op_eqM (u64 hr)) mo_eq (me_var 9) (me_str)) (me_tup (ma_cons (me_str) (ma_cons (me_ix (me_var 7) (me_var 10)) (ma_nil)))) (me_tup (ma_cons (me_str) (ma_nil)))) (me_var 6) (me_var 12)))))))))) (mss_cons (ms_set 3 sc__law_sure_code.nd (me_fnT call_tuple_of mf_tuple t.n_tuple (by decide +kernel) (ma_cons (me_lc (own := [("_law_spot", 14)]) rfl sc__law_sure_code.nd (mi_rg1 t.n_range (me_var 5)) (gow_nm 14) (blkOk_by (N := N__law_sure_code) (sc := defScope (top 59)) (by decide +kernel)) (fun _ _ _ _ _ => pg_name (i := 14) sc__law_sure_code.nd rfl (by first | exact Or.inl rfl | exact Or.inr rfl)) (fun _ _ _ _ _ => me_call (ok__law_number t) (hr.mono (by decide)) (fun h => nomatch h) t.d__law_number.m t.d__law_number.k t.d__law_number.b (LamX.takes0) (ma_cons (me_var 0) (ma_cons (me_var 2) (ma_nil))))) (ma_nil)))) (mss_one (ms_ret (me_tup (ma_cons (me_var 1) (ma_cons (me_var 2) (ma_cons (me_fnT call_tuple_of mf_tuple t.n_tuple (by decide +kernel) (ma_cons (me_var 6) (ma_nil))) (ma_cons (me_var 3) (ma_nil))))))))))))
theorem ex__law_mk_cell : ∃ f : Ads → MSp, f = fun q => mDef 7 (mSeq (mAsg (mCall (sp__law_draw q) [mVar 0, mC (.int 12)]) (.nm 5)) (mSeq (mIfS (mVal (mOp fLt (mVar 5) (mC (.int 5)))) (mRet (mOp fAdd (mTup [mCall (sp__law_draw q) [mVar 0, mVar 1]]) (mCall (sp__law_plain_step q) [mVar 0, mVar 2, mVar 3]))) (mNext)) (mSeq (mIfS (mVal (mOp fLt (mVar 5) (mC (.int 8)))) (mRet (mTup [mCall (sp__law_draw q) [mVar 0, mVar 1], mC (.str "offer"), mCall (sp__law_draw q) [mVar 0, mC (.int 4)]])) (mNext)) (mSeq (mAsg (mOp fAdd (mC (.int 1)) (mCall (sp__law_draw q) [mVar 0, mVar 1])) (.nm 6)) (mSeq (mIfS (mVal (mOp fEq (mVar 5) (mC (.int 8)))) (mRet (mTup [mCall (sp__law_pick q) [mVar 0, mLst [mC (.str "show"), mC (.str "turn")]], mCall (sp__law_draw q) [mVar 0, mFn (fI2 fun i j => if j < i then j else i) [mVar 4, mC (.int 6)]], mVar 6])) (mNext)) (mSeq (mIfS (mVal (mOp fEq (mVar 5) (mC (.int 9)))) (mRet (mTup [mC (.str "take"), mCall (sp__law_draw q) [mVar 0, mC (.int 4)], mVar 6])) (mNext)) (mRet (mCall (sp__law_pick q) [mVar 0, mLst [mTup [mC (.str "mark")], mTup [mC (.str "stop")], mTup [mC (.str "goto"), mCall (sp__law_draw q) [mVar 0, mVar 4]], mTup [mC (.str "show"), mC (.int 0), mC (.int 1)]]])))))))) := ⟨_, rfl⟩
noncomputable def sp__law_mk_cell (q : Ads) : MSp := ex__law_mk_cell.choose q
theorem un__law_mk_cell (q : Ads) : sp__law_mk_cell q = mDef 7 (mSeq (mAsg (mCall (sp__law_draw q) [mVar 0, mC (.int 12)]) (.nm 5)) (mSeq (mIfS (mVal (mOp fLt (mVar 5) (mC (.int 5)))) (mRet (mOp fAdd (mTup [mCall (sp__law_draw q) [mVar 0, mVar 1]]) (mCall (sp__law_plain_step q) [mVar 0, mVar 2, mVar 3]))) (mNext)) (mSeq (mIfS (mVal (mOp fLt (mVar 5) (mC (.int 8)))) (mRet (mTup [mCall (sp__law_draw q) [mVar 0, mVar 1], mC (.str "offer"), mCall (sp__law_draw q) [mVar 0, mC (.int 4)]])) (mNext)) (mSeq (mAsg (mOp fAdd (mC (.int 1)) (mCall (sp__law_draw q) [mVar 0, mVar 1])) (.nm 6)) (mSeq (mIfS (mVal (mOp fEq (mVar 5) (mC (.int 8)))) (mRet (mTup [mCall (sp__law_pick q) [mVar 0, mLst [mC (.str "show"), mC (.str "turn")]], mCall (sp__law_draw q) [mVar 0, mFn (fI2 fun i j => if j < i then j else i) [mVar 4, mC (.int 6)]], mVar 6])) (mNext)) (mSeq (mIfS (mVal (mOp fEq (mVar 5) (mC (.int 9)))) (mRet (mTup [mC (.str "take"), mCall (sp__law_draw q) [mVar 0, mC (.int 4)], mVar 6])) (mNext)) (mRet (mCall (sp__law_pick q) [mVar 0, mLst [mTup [mC (.str "mark")], mTup [mC (.str "stop")], mTup [mC (.str "goto"), mCall (sp__law_draw q) [mVar 0, mVar 4]], mTup [mC (.str "show"), mC (.int 0), mC (.int 1)]]])))))))) := congrFun ex__law_mk_cell.choose_spec q
abbrev N__law_mk_cell : List Str := ["_law_state", "_law_hues", "_law_size_here", "_law_bank", "_law_many", "_law_way", "_law_width"]
theorem sc__law_mk_cell : FnScope N__law_mk_cell ["_law_state", "_law_hues", "_law_size_here", "_law_bank", "_law_many"] (defScope (top 60)) := ⟨rfl, rfl, rfl, by decide +kernel, rfl, by decide +kernel, by decide +kernel⟩
theorem ok__law_mk_cell (t : Txt K mg base q) : FnG P w K mg base (tT q) false 6 t.d__law_mk_cell.f t.d__law_mk_cell.fd ["_law_state", "_law_hues", "_law_size_here", "_law_bank", "_law_many"] 5 (sp__law_mk_cell q) := by
  rw [un__law_mk_cell]
  exact t.d__law_mk_cell.ok sc__law_mk_cell rfl fun A outer s H E hr gA =>
    mss_cons (ms_set 5 sc__law_mk_cell.nd (me_call (ok__law_draw t) (hr.mono (by decide)) (fun h => nomatch h) t.d__law_draw.m t.d__law_draw.k t.d__law_draw.b (takes_of rfl rfl rfl rfl) (ma_cons (me_var 0) (ma_cons (me_int) (ma_nil))))) (mss_cons (ms_if (mt_cmp op_lt mo_lt (me_var 5) (me_int)) (mss_one (ms_ret (me_op op_addM mo_add (me_tup (ma_cons (me_call (ok__law_draw t) (hr.mono (by decide)) (fun h => nomatch h) t.d__law_draw.m t.d__law_draw.k t.d__law_draw.b (takes_of rfl rfl rfl rfl) (ma_cons (me_var 0) (ma_cons (me_var 1) (ma_nil)))) (ma_nil))) (me_call (ok__law_plain_step t) (hr.mono (by decide)) (fun h => nomatch h) t.d__law_plain_step.m t.d__law_plain_step.k t.d__law_plain_step.b (takes_of rfl rfl rfl rfl) (ma_cons (me_var 0) (ma_cons (me_var 2) (ma_cons (me_var 3) (ma_nil)))))))) (mss_nil)) (mss_cons (ms_if (mt_cmp op_lt mo_lt (me_var 5) (me_int)) (mss_one (ms_ret (me_tup (ma_cons (me_call (ok__law_draw t) (hr.mono (by decide)) (fun h => nomatch h) t.d__law_draw.m t.d__law_draw.k t.d__law_draw.b (takes_of rfl rfl rfl rfl) (ma_cons (me_var 0) (ma_cons (me_var 1) (ma_nil)))) (ma_cons (me_str) (ma_cons (me_call (ok__law_draw t) (hr.mono (by decide)) (fun h => nomatch h) t.d__law_draw.m t.d__law_draw.k t.d__law_draw.b (takes_of rfl rfl rfl rfl) (ma_cons (me_var 0) (ma_cons (me_int) (ma_nil)))) (ma_nil))))))) (mss_nil)) (mss_cons (ms_set 6 sc__law_mk_cell.nd (me_op op_addM mo_add (me_int) (me_call (ok__law_draw t) (hr.mono (by decide)) (fun h => nomatch h) t.d__law_draw.m t.d__law_draw.k t.d__law_draw.b (takes_of rfl rfl rfl rfl) (ma_cons (me_var 0) (ma_cons (me_var 1) (ma_nil)))))) (mss_cons (ms_if (mt_cmp (op_eqM (u64 hr)) mo_eq (me_var 5) (me_int)) (mss_one (ms_ret (me_tup (ma_cons (me_call (ok__law_pick t) (hr.mono (by decide)) (fun h => nomatch h) t.d__law_pick.m t.d__law_pick.k t.d__law_pick.b (takes_of rfl rfl rfl rfl) (ma_cons (me_var 0) (ma_cons (me_lst (ma_cons (me_str) (ma_cons (me_str) (ma_nil)))) (ma_nil)))) (ma_cons (me_call (ok__law_draw t) (hr.mono (by decide)) (fun h => nomatch h) t.d__law_draw.m t.d__law_draw.k t.d__law_draw.b (takes_of rfl rfl rfl rfl) (ma_cons (me_var 0) (ma_cons (me_fnB (call_min2 rfl) mf_min t.n_min (by decide +kernel) (ma_cons (me_var 4) (ma_cons (me_int) (ma_nil)))) (ma_nil)))) (ma_cons (me_var 6) (ma_nil))))))) (mss_nil)) (mss_cons (ms_if (mt_cmp (op_eqM (u64 hr)) mo_eq (me_var 5) (me_int)) (mss_one (ms_ret (me_tup (ma_cons (me_str) (ma_cons (me_call (ok__law_draw t) (hr.mono (by decide)) (fun h => nomatch h) t.d__law_draw.m t.d__law_draw.k t.d__law_draw.b (takes_of rfl rfl rfl rfl) (ma_cons (me_var 0) (ma_cons (me_int) (ma_nil)))) (ma_cons (me_var 6) (ma_nil))))))) (mss_nil)) (mss_one (ms_ret (me_call (ok__law_pick t) (hr.mono (by decide)) (fun h => nomatch h) t.d__law_pick.m t.d__law_pick.k t.d__law_pick.b (takes_of rfl rfl rfl rfl) (ma_cons (me_var 0) (ma_cons (me_lst (ma_cons (me_tup (ma_cons (me_str) (ma_nil))) (ma_cons (me_tup (ma_cons (me_str) (ma_nil))) (ma_cons (me_tup (ma_cons (me_str) (ma_cons (me_call (ok__law_draw t) (hr.mono (by decide)) (fun h => nomatch h) t.d__law_draw.m t.d__law_draw.k t.d__law_draw.b (takes_of rfl rfl rfl rfl) (ma_cons (me_var 0) (ma_cons (me_var 4) (ma_nil)))) (ma_nil)))) (ma_cons (me_tup (ma_cons (me_str) (ma_cons (me_int) (ma_cons (me_int) (ma_nil))))) (ma_nil)))))) (ma_nil)))))))))))
theorem ex__law_mk_any_code : ∃ f : Ads → MSp, f = fun q => mDef 7 (mSeq (mAsg (mTup [mCall (sp__law_votes q) [mVar 0], mCall (sp__law_size q) [mVar 0]]) (.tp [2, 3])) (mSeq (mAsg (mTup [mCall (sp__law_pick q) [mVar 0, mLst [mC (.int 3), mC (.int 0), mC (.int 1), mC (.int 6)]], mCall (sp__law_pick q) [mVar 0, mLst [mC (.int 9), mC (.int 4), mC (.int 14), mC (.int 1), mC (.int 20)]]]) (.tp [4, 5])) (mSeq (mAsg (mLc (miRg1 (mVar 5)) (.nm 6) mYes (mCall (sp__law_mk_cell q) [mVar 0, mFn fLen [mVar 2], mVar 3, mVar 4, mVar 5]) [6]) (.nm 1)) (mRet (mTup [mVar 2, mVar 3, mFn fTuple [mVar 1], mFn fTuple [mLc (miRg1 (mVar 4)) (.nm 6) mYes (mCall (sp__law_number q) [mVar 0, mVar 3]) [6]]]))))) := ⟨_, rfl⟩
noncomputable def sp__law_mk_any_code (q : Ads) : MSp := ex__law_mk_any_code.choose q
theorem un__law_mk_any_code (q : Ads) : sp__law_mk_any_code q = mDef 7 (mSeq (mAsg (mTup [mCall (sp__law_votes q) [mVar 0], mCall (sp__law_size q) [mVar 0]]) (.tp [2, 3])) (mSeq (mAsg (mTup [mCall (sp__law_pick q) [mVar 0, mLst [mC (.int 3), mC (.int 0), mC (.int 1), mC (.int 6)]], mCall (sp__law_pick q) [mVar 0, mLst [mC (.int 9), mC (.int 4), mC (.int 14), mC (.int 1), mC (.int 20)]]]) (.tp [4, 5])) (mSeq (mAsg (mLc (miRg1 (mVar 5)) (.nm 6) mYes (mCall (sp__law_mk_cell q) [mVar 0, mFn fLen [mVar 2], mVar 3, mVar 4, mVar 5]) [6]) (.nm 1)) (mRet (mTup [mVar 2, mVar 3, mFn fTuple [mVar 1], mFn fTuple [mLc (miRg1 (mVar 4)) (.nm 6) mYes (mCall (sp__law_number q) [mVar 0, mVar 3]) [6]]]))))) := congrFun ex__law_mk_any_code.choose_spec q
abbrev N__law_mk_any_code : List Str := ["_law_state", "_law_cells", "_law_votes_here", "_law_size_here", "_law_bank", "_law_many", "_law_spot"]
theorem sc__law_mk_any_code : FnScope N__law_mk_any_code ["_law_state"] (defScope (top 61)) := ⟨rfl, rfl, rfl, by decide +kernel, rfl, by decide +kernel, by decide +kernel⟩
theorem ok__law_mk_any_code (t : Txt K mg base q) : FnG P w K mg base (tT q) false 7 t.d__law_mk_any_code.f t.d__law_mk_any_code.fd ["_law_state"] 1 (sp__law_mk_any_code q) := by
  rw [un__law_mk_any_code]
  exact t.d__law_mk_any_code.ok sc__law_mk_any_code rfl fun A outer s H E hr gA =>
    mss_cons (ms_asg (me_tup (ma_cons (me_call (ok__law_votes t) (hr.mono (by decide)) (fun h => nomatch h) t.d__law_votes.m t.d__law_votes.k t.d__law_votes.b (takes_of rfl rfl rfl rfl) (ma_cons (me_var 0) (ma_nil))) (ma_cons (me_call (ok__law_size t) (hr.mono (by decide)) (fun h => nomatch h) t.d__law_size.m t.d__law_size.k t.d__law_size.b (takes_of rfl rfl rfl rfl) (ma_cons (me_var 0) (ma_nil))) (ma_nil)))) (pg_tup rfl (pgs_cons (pg_name (i := 2) sc__law_mk_any_code.nd rfl (by first | exact Or.inl rfl | exact Or.inr rfl)) (pgs_cons (pg_name (i := 3) sc__law_mk_any_code.nd rfl (by first | exact Or.inl rfl | exact Or.inr rfl)) (pgs_nil)))) (gok_tp [2, 3] rfl)) (mss_cons (ms_asg (me_tup (ma_cons (me_call (ok__law_pick t) (hr.mono (by decide)) (fun h => nomatch h) t.d__law_pick.m t.d__law_pick.k t.d__law_pick.b (takes_of rfl rfl rfl rfl) (ma_cons (me_var 0) (ma_cons (me_lst (ma_cons (me_int) (ma_cons (me_int) (ma_cons (me_int) (ma_cons (me_int) (ma_nil)))))) (ma_nil)))) (ma_cons (me_call (ok__law_pick t) (hr.mono (by decide)) (fun h => nomatch h) t.d__law_pick.m t.d__law_pick.k t.d__law_pick.b (takes_of rfl rfl rfl rfl) (ma_cons (me_var 0) (ma_cons (me_lst (ma_cons (me_int) (ma_cons (me_int) (ma_cons (me_int) (ma_cons (me_int) (ma_cons (me_int) (ma_nil))))))) (ma_nil)))) (ma_nil)))) (pg_tup rfl (pgs_cons (pg_name (i := 4) sc__law_mk_any_code.nd rfl (by first | exact Or.inl rfl | exact Or.inr rfl)) (pgs_cons (pg_name (i := 5) sc__law_mk_any_code.nd rfl (by first | exact Or.inl rfl | exact Or.inr rfl)) (pgs_nil)))) (gok_tp [4, 5] rfl)) (mss_cons (ms_setLc (i := 1) (own := [("_law_spot", 6)]) rfl sc__law_mk_any_code.nd (mi_rg1 t.n_range (me_var 5)) (gow_nm 6) (blkOk_by (N := N__law_mk_any_code) (sc := defScope (top 61)) (by decide +kernel)) (fun _ _ _ _ _ => pg_name (i := 6) sc__law_mk_any_code.nd rfl (by first | exact Or.inl rfl | exact Or.inr rfl)) (fun _ _ _ _ _ => me_call (ok__law_mk_cell t) (hr.mono (by decide)) (fun h => nomatch h) t.d__law_mk_cell.m t.d__law_mk_cell.k t.d__law_mk_cell.b (LamX.takes0) (ma_cons (me_var 0) (ma_cons (me_fnB call_lenM mf_len t.n_len (by decide +kernel) (ma_cons (me_var 2) (ma_nil))) (ma_cons (me_var 3) (ma_cons (me_var 4) (ma_cons (me_var 5) (ma_nil)))))))) (mss_one (ms_ret (me_tup (ma_cons (me_var 2) (ma_cons (me_var 3) (ma_cons (me_fnT call_tuple_of mf_tuple t.n_tuple (by decide +kernel) (ma_cons (me_var 1) (ma_nil))) (ma_cons (me_fnT call_tuple_of mf_tuple t.n_tuple (by decide +kernel) (ma_cons (me_lc (own := [("_law_spot", 6)]) rfl sc__law_mk_any_code.nd (mi_rg1 t.n_range (me_var 4)) (gow_nm 6) (blkOk_by (N := N__law_mk_any_code) (sc := defScope (top 61)) (by decide +kernel)) (fun _ _ _ _ _ => pg_name (i := 6) sc__law_mk_any_code.nd rfl (by first | exact Or.inl rfl | exact Or.inr rfl)) (fun _ _ _ _ _ => me_call (ok__law_number t) (hr.mono (by decide)) (fun h => nomatch h) t.d__law_number.m t.d__law_number.k t.d__law_number.b (LamX.takes0) (ma_cons (me_var 0) (ma_cons (me_var 3) (ma_nil))))) (ma_nil))) (ma_nil))))))))))
theorem ex__law_mk_bent : ∃ f : Ads → MSp, f = fun q => mDef 4 (mSeq (mAsg (mTup [mFn fList [mOp fIx (mVar 1) (mC (.int 2))], mCall (sp__law_draw q) [mVar 0, mFn fLen [mOp fIx (mVar 1) (mC (.int 2))]]]) (.tp [2, 3])) (mSeq (mPut (mCall (sp__law_mk_cell q) [mVar 0, mFn fLen [mOp fIx (mVar 1) (mC (.int 0))], mOp fIx (mVar 1) (mC (.int 1)), mFn fLen [mOp fIx (mVar 1) (mC (.int 3))], mFn fLen [mVar 2]]) (mVar 2) (mVar 3)) (mRet (mTup [mOp fIx (mVar 1) (mC (.int 0)), mOp fIx (mVar 1) (mC (.int 1)), mFn fTuple [mVar 2], mOp fIx (mVar 1) (mC (.int 3))])))) := ⟨_, rfl⟩
noncomputable def sp__law_mk_bent (q : Ads) : MSp := ex__law_mk_bent.choose q
theorem un__law_mk_bent (q : Ads) : sp__law_mk_bent q = mDef 4 (mSeq (mAsg (mTup [mFn fList [mOp fIx (mVar 1) (mC (.int 2))], mCall (sp__law_draw q) [mVar 0, mFn fLen [mOp fIx (mVar 1) (mC (.int 2))]]]) (.tp [2, 3])) (mSeq (mPut (mCall (sp__law_mk_cell q) [mVar 0, mFn fLen [mOp fIx (mVar 1) (mC (.int 0))], mOp fIx (mVar 1) (mC (.int 1)), mFn fLen [mOp fIx (mVar 1) (mC (.int 3))], mFn fLen [mVar 2]]) (mVar 2) (mVar 3)) (mRet (mTup [mOp fIx (mVar 1) (mC (.int 0)), mOp fIx (mVar 1) (mC (.int 1)), mFn fTuple [mVar 2], mOp fIx (mVar 1) (mC (.int 3))])))) := congrFun ex__law_mk_bent.choose_spec q
abbrev N__law_mk_bent : List Str := ["_law_state", "_law_code", "_law_cells", "_law_at"]
theorem sc__law_mk_bent : FnScope N__law_mk_bent ["_law_state", "_law_code"] (defScope (top 62)) := ⟨rfl, rfl, rfl, by decide +kernel, rfl, by decide +kernel, by decide +kernel⟩
theorem ok__law_mk_bent (t : Txt K mg base q) : FnG P w K mg base (tT q) false 7 t.d__law_mk_bent.f t.d__law_mk_bent.fd ["_law_state", "_law_code"] 2 (sp__law_mk_bent q) := by
  rw [un__law_mk_bent]
  exact t.d__law_mk_bent.ok sc__law_mk_bent rfl fun A outer s H E hr gA =>
    mss_cons (ms_par 2 3 rfl sc__law_mk_bent.nd (ma_cons (me_fnT call_list_of mf_list t.n_list (by decide +kernel) (ma_cons (me_ix (me_var 1) (me_int)) (ma_nil))) (ma_cons (me_call (ok__law_draw t) (hr.mono (by decide)) (fun h => nomatch h) t.d__law_draw.m t.d__law_draw.k t.d__law_draw.b (takes_of rfl rfl rfl rfl) (ma_cons (me_var 0) (ma_cons (me_fnB call_lenM mf_len t.n_len (by decide +kernel) (ma_cons (me_ix (me_var 1) (me_int)) (ma_nil))) (ma_nil)))) (ma_nil)))) (mss_cons (ms_put (u1 hr) (me_call (ok__law_mk_cell t) (hr.mono (by decide)) (fun h => nomatch h) t.d__law_mk_cell.m t.d__law_mk_cell.k t.d__law_mk_cell.b (takes_of rfl rfl rfl rfl) (ma_cons (me_var 0) (ma_cons (me_fnB call_lenM mf_len t.n_len (by decide +kernel) (ma_cons (me_ix (me_var 1) (me_int)) (ma_nil))) (ma_cons (me_ix (me_var 1) (me_int)) (ma_cons (me_fnB call_lenM mf_len t.n_len (by decide +kernel) (ma_cons (me_ix (me_var 1) (me_int)) (ma_nil))) (ma_cons (me_fnB call_lenM mf_len t.n_len (by decide +kernel) (ma_cons (me_var 2) (ma_nil))) (ma_nil))))))) (me_var 2) (me_var 3)) (mss_one (ms_ret (me_tup (ma_cons (me_ix (me_var 1) (me_int)) (ma_cons (me_ix (me_var 1) (me_int)) (ma_cons (me_fnT call_tuple_of mf_tuple t.n_tuple (by decide +kernel) (ma_cons (me_var 2) (ma_nil))) (ma_cons (me_ix (me_var 1) (me_int)) (ma_nil)))))))))
theorem ex__law_mk_sure : ∃ f : Ads → MSp, f = fun q => mDef 7 (mSeq (mAsg (mCall (sp__law_sure_code q) [mVar 0, mVar 1, mCall (sp__law_size q) [mVar 0]]) (.nm 2)) (mSeq (mAsg (mTup [mCall (sp__law_draw q) [mVar 0, mC (.int 3)], mLst [], mLst []]) (.tp [4, 5, 6])) (mSeq (mFor (miSeq (mOp fIx (mVar 2) (mC (.int 2)))) (.nm 3) (mSeq (mIfS (mAnd (mVal (mOp fEq (mVar 4) (mC (.int 1)))) (mVal (mOp fIn (mOp fIx (mVar 3) (mC (.int 0))) (mLst [mC (.str "show"), mC (.str "turn")])))) (mAsg (mTup [mOp fIx (mVar 3) (mC (.int 0)), mOp fIx (mVar 3) (mC (.int 1)), mOp fAdd (mC (.int 1)) (mCall (sp__law_draw q) [mVar 0, mFn fLen [mVar 1]])]) (.nm 3)) (mNext)) (mSeq (mIfS (mAnd (mVal (mOp fEq (mVar 4) (mC (.int 2)))) (mAnd (mVal (mOp fEq (mOp fIx (mVar 3) (mC (.int 0))) (mC (.str "show")))) (mVal (mOp fEq (mCall (sp__law_draw q) [mVar 0, mC (.int 2)]) (mC (.int 0)))))) (mAsg (mTup [mC (.str "mark")]) (.nm 3)) (mNext)) (mDrop (mMeth fAppend (mVar 6) [mVar 3]))))) (mRet (mTup [mVar 1, mOp fIx (mVar 2) (mC (.int 1)), mFn fTuple [mVar 6], mOp fIx (mVar 2) (mC (.int 3))]))))) := ⟨_, rfl⟩
noncomputable def sp__law_mk_sure (q : Ads) : MSp := ex__law_mk_sure.choose q
theorem un__law_mk_sure (q : Ads) : sp__law_mk_sure q = mDef 7 (mSeq (mAsg (mCall (sp__law_sure_code q) [mVar 0, mVar 1, mCall (sp__law_size q) [mVar 0]]) (.nm 2)) (mSeq (mAsg (mTup [mCall (sp__law_draw q) [mVar 0, mC (.int 3)], mLst [], mLst []]) (.tp [4, 5, 6])) (mSeq (mFor (miSeq (mOp fIx (mVar 2) (mC (.int 2)))) (.nm 3) (mSeq (mIfS (mAnd (mVal (mOp fEq (mVar 4) (mC (.int 1)))) (mVal (mOp fIn (mOp fIx (mVar 3) (mC (.int 0))) (mLst [mC (.str "show"), mC (.str "turn")])))) (mAsg (mTup [mOp fIx (mVar 3) (mC (.int 0)), mOp fIx (mVar 3) (mC (.int 1)), mOp fAdd (mC (.int 1)) (mCall (sp__law_draw q) [mVar 0, mFn fLen [mVar 1]])]) (.nm 3)) (mNext)) (mSeq (mIfS (mAnd (mVal (mOp fEq (mVar 4) (mC (.int 2)))) (mAnd (mVal (mOp fEq (mOp fIx (mVar 3) (mC (.int 0))) (mC (.str "show")))) (mVal (mOp fEq (mCall (sp__law_draw q) [mVar 0, mC (.int 2)]) (mC (.int 0)))))) (mAsg (mTup [mC (.str "mark")]) (.nm 3)) (mNext)) (mDrop (mMeth fAppend (mVar 6) [mVar 3]))))) (mRet (mTup [mVar 1, mOp fIx (mVar 2) (mC (.int 1)), mFn fTuple [mVar 6], mOp fIx (mVar 2) (mC (.int 3))]))))) := congrFun ex__law_mk_sure.choose_spec q
abbrev N__law_mk_sure : List Str := ["_law_state", "_law_votes_here", "_law_code", "_law_cell", "_law_way", "_law_cells", "_law_found"]
theorem sc__law_mk_sure : FnScope N__law_mk_sure ["_law_state", "_law_votes_here"] (defScope (top 63)) := ⟨rfl, rfl, rfl, by decide +kernel, rfl, by decide +kernel, by decide +kernel⟩
theorem ok__law_mk_sure (t : Txt K mg base q) : FnG P w K mg base (tT q) false 7 t.d__law_mk_sure.f t.d__law_mk_sure.fd ["_law_state", "_law_votes_here"] 2 (sp__law_mk_sure q) := by
  rw [un__law_mk_sure]
  exact t.d__law_mk_sure.ok sc__law_mk_sure rfl fun A outer s H E hr gA =>
    mss_cons (ms_set 2 sc__law_mk_sure.nd (me_call (ok__law_sure_code t) (hr.mono (by decide)) (fun h => nomatch h) t.d__law_sure_code.m t.d__law_sure_code.k t.d__law_sure_code.b (takes_of rfl rfl rfl rfl) (ma_cons (me_var 0) (ma_cons (me_var 1) (ma_cons (me_call (ok__law_size t) (hr.mono (by decide)) (fun h => nomatch h) t.d__law_size.m t.d__law_size.k t.d__law_size.b (takes_of rfl rfl rfl rfl) (ma_cons (me_var 0) (ma_nil))) (ma_nil)))))) (mss_cons (ms_par3 4 5 6 rfl sc__law_mk_sure.nd (ma_cons (me_call (ok__law_draw t) (hr.mono (by decide)) (fun h => nomatch h) t.d__law_draw.m t.d__law_draw.k t.d__law_draw.b (takes_of rfl rfl rfl rfl) (ma_cons (me_var 0) (ma_cons (me_int) (ma_nil)))) (ma_cons (me_lst (ma_nil)) (ma_cons (me_lst (ma_nil)) (ma_nil))))) (mss_cons (ms_for (passes_of rfl) rfl (mi_seq (me_ix (me_var 2) (me_int))) (pg_name (i := 3) sc__law_mk_sure.nd rfl (by first | exact Or.inl rfl | exact Or.inr rfl)) (gok_nm 3) (mss_cons (ms_if (mt_bool (mw_and (mt_cmp (op_eqM (u64 hr)) mo_eq (me_var 4) (me_int)) (mw_and1 (mt_cmp (op_inM (u64 hr)) mo_in (me_ix (me_var 3) (me_int)) (me_lst (ma_cons (me_str) (ma_cons (me_str) (ma_nil)))))))) (mss_one (ms_set 3 sc__law_mk_sure.nd (me_tup (ma_cons (me_ix (me_var 3) (me_int)) (ma_cons (me_ix (me_var 3) (me_int)) (ma_cons (me_op op_addM mo_add (me_int) (me_call (ok__law_draw t) (hr.mono (by decide)) (fun h => nomatch h) t.d__law_draw.m t.d__law_draw.k t.d__law_draw.b (takes_of rfl rfl rfl rfl) (ma_cons (me_var 0) (ma_cons (me_fnB call_lenM mf_len t.n_len (by decide +kernel) (ma_cons (me_var 1) (ma_nil))) (ma_nil))))) (ma_nil))))))) (mss_nil)) (mss_cons (ms_if (mt_bool (mw_and (mt_cmp (op_eqM (u64 hr)) mo_eq (me_var 4) (me_int)) (mw_and (mt_cmp (op_eqM (u64 hr)) mo_eq (me_ix (me_var 3) (me_int)) (me_str)) (mw_and1 (mt_cmp (op_eqM (u64 hr)) mo_eq (me_call (ok__law_draw t) (hr.mono (by decide)) (fun h => nomatch h) t.d__law_draw.m t.d__law_draw.k t.d__law_draw.b (takes_of rfl rfl rfl rfl) (ma_cons (me_var 0) (ma_cons (me_int) (ma_nil)))) (me_int)))))) (mss_one (ms_set 3 sc__law_mk_sure.nd (me_tup (ma_cons (me_str) (ma_nil))))) (mss_nil)) (mss_one (ms_expr (me_meth PySem.F.slot_list_append PySem.F.type_list_append mt_append met_append (me_var 6) (ma_cons (me_var 3) (ma_nil)))))))) (mss_one (ms_ret (me_tup (ma_cons (me_var 1) (ma_cons (me_ix (me_var 2) (me_int)) (ma_cons (me_fnT call_tuple_of mf_tuple t.n_tuple (by decide +kernel) (ma_cons (me_var 6) (ma_nil))) (ma_cons (me_ix (me_var 2) (me_int)) (ma_nil))))))))))
theorem ex__law_mk_code : ∃ f : Ads → MSp, f = fun q => mDef 3 (mSeq (mAsg (mCall (sp__law_draw q) [mVar 0, mC (.int 4)]) (.nm 1)) (mSeq (mIfS (mVal (mOp fEq (mVar 1) (mC (.int 0)))) (mRet (mCall (sp__law_mk_any_code q) [mVar 0])) (mNext)) (mSeq (mAsg (mCall (sp__law_mk_sure q) [mVar 0, mCall (sp__law_votes q) [mVar 0]]) (.nm 2)) (mRet (mIf (mVal (mOp fEq (mVar 1) (mC (.int 1)))) (mCall (sp__law_mk_bent q) [mVar 0, mVar 2]) (mVar 2)))))) := ⟨_, rfl⟩
noncomputable def sp__law_mk_code (q : Ads) : MSp := ex__law_mk_code.choose q
theorem un__law_mk_code (q : Ads) : sp__law_mk_code q = mDef 3 (mSeq (mAsg (mCall (sp__law_draw q) [mVar 0, mC (.int 4)]) (.nm 1)) (mSeq (mIfS (mVal (mOp fEq (mVar 1) (mC (.int 0)))) (mRet (mCall (sp__law_mk_any_code q) [mVar 0])) (mNext)) (mSeq (mAsg (mCall (sp__law_mk_sure q) [mVar 0, mCall (sp__law_votes q) [mVar 0]]) (.nm 2)) (mRet (mIf (mVal (mOp fEq (mVar 1) (mC (.int 1)))) (mCall (sp__law_mk_bent q) [mVar 0, mVar 2]) (mVar 2)))))) := congrFun ex__law_mk_code.choose_spec q
abbrev N__law_mk_code : List Str := ["_law_state", "_law_way", "_law_code"]
theorem sc__law_mk_code : FnScope N__law_mk_code ["_law_state"] (defScope (top 64)) := ⟨rfl, rfl, rfl, by decide +kernel, rfl, by decide +kernel, by decide +kernel⟩
theorem ok__law_mk_code (t : Txt K mg base q) : FnG P w K mg base (tT q) false 8 t.d__law_mk_code.f t.d__law_mk_code.fd ["_law_state"] 1 (sp__law_mk_code q) := by
  rw [un__law_mk_code]
  exact t.d__law_mk_code.ok sc__law_mk_code rfl fun A outer s H E hr gA =>
    mss_cons (ms_set 1 sc__law_mk_code.nd (me_call (ok__law_draw t) (hr.mono (by decide)) (fun h => nomatch h) t.d__law_draw.m t.d__law_draw.k t.d__law_draw.b (takes_of rfl rfl rfl rfl) (ma_cons (me_var 0) (ma_cons (me_int) (ma_nil))))) (mss_cons (ms_if (mt_cmp (op_eqM (u64 hr)) mo_eq (me_var 1) (me_int)) (mss_one (ms_ret (me_call (ok__law_mk_any_code t) (hr.mono (by decide)) (fun h => nomatch h) t.d__law_mk_any_code.m t.d__law_mk_any_code.k t.d__law_mk_any_code.b (takes_of rfl rfl rfl rfl) (ma_cons (me_var 0) (ma_nil))))) (mss_nil)) (mss_cons (ms_set 2 sc__law_mk_code.nd (me_call (ok__law_mk_sure t) (hr.mono (by decide)) (fun h => nomatch h) t.d__law_mk_sure.m t.d__law_mk_sure.k t.d__law_mk_sure.b (takes_of rfl rfl rfl rfl) (ma_cons (me_var 0) (ma_cons (me_call (ok__law_votes t) (hr.mono (by decide)) (fun h => nomatch h) t.d__law_votes.m t.d__law_votes.k t.d__law_votes.b (takes_of rfl rfl rfl rfl) (ma_cons (me_var 0) (ma_nil))) (ma_nil))))) (mss_one (ms_ret (me_if (mt_cmp (op_eqM (u64 hr)) mo_eq (me_var 1) (me_int)) (me_call (ok__law_mk_bent t) (hr.mono (by decide)) (fun h => nomatch h) t.d__law_mk_bent.m t.d__law_mk_bent.k t.d__law_mk_bent.b (takes_of rfl rfl rfl rfl) (ma_cons (me_var 0) (ma_cons (me_var 2) (ma_nil)))) (me_var 2))))))
theorem ex__law_mk_labels : ∃ f : Ads → MSp, f = fun q => mDef 4 (mSeq (mAsg (mLst [mC (.int 0)]) (.nm 1)) (mSeq (mFor (miEnum 0 (mVar 0)) (.tp [2, 3]) (mIfS (mVal (mIsi .str (mOp fIx (mVar 3) (mC (.int 0))))) (mSeq (mAsg (mIf (mVal (mOp fIn (mOp fIx (mVar 3) (mC (.int 0))) (mLst [mC (.str "turn"), mC (.str "goto")]))) (mOp fAdd (mVar 1) (mLst [mOp fIx (mVar 3) (mC (.int 1))])) (mVar 1)) (.nm 1)) (mAsg (mIf (mVal (mOp fLt (mOp fAdd (mVar 2) (mC (.int 1))) (mFn fLen [mVar 0]))) (mOp fAdd (mVar 1) (mLst [mOp fAdd (mVar 2) (mC (.int 1))])) (mVar 1)) (.nm 1))) (mNext))) (mRet (mLc (miRg1 (mFn fLen [mVar 0])) (.nm 2) (mVal (mOp fIn (mVar 2) (mVar 1))) (mVar 2) [2])))) := ⟨_, rfl⟩
noncomputable def sp__law_mk_labels (q : Ads) : MSp := ex__law_mk_labels.choose q
theorem un__law_mk_labels (q : Ads) : sp__law_mk_labels q = mDef 4 (mSeq (mAsg (mLst [mC (.int 0)]) (.nm 1)) (mSeq (mFor (miEnum 0 (mVar 0)) (.tp [2, 3]) (mIfS (mVal (mIsi .str (mOp fIx (mVar 3) (mC (.int 0))))) (mSeq (mAsg (mIf (mVal (mOp fIn (mOp fIx (mVar 3) (mC (.int 0))) (mLst [mC (.str "turn"), mC (.str "goto")]))) (mOp fAdd (mVar 1) (mLst [mOp fIx (mVar 3) (mC (.int 1))])) (mVar 1)) (.nm 1)) (mAsg (mIf (mVal (mOp fLt (mOp fAdd (mVar 2) (mC (.int 1))) (mFn fLen [mVar 0]))) (mOp fAdd (mVar 1) (mLst [mOp fAdd (mVar 2) (mC (.int 1))])) (mVar 1)) (.nm 1))) (mNext))) (mRet (mLc (miRg1 (mFn fLen [mVar 0])) (.nm 2) (mVal (mOp fIn (mVar 2) (mVar 1))) (mVar 2) [2])))) := congrFun ex__law_mk_labels.choose_spec q
abbrev N__law_mk_labels : List Str := ["_law_cells", "_law_found", "_law_at", "_law_cell"]
theorem sc__law_mk_labels : FnScope N__law_mk_labels ["_law_cells"] (defScope (top 65)) := ⟨rfl, rfl, rfl, by decide +kernel, rfl, by decide +kernel, by decide +kernel⟩
theorem ok__law_mk_labels (t : Txt K mg base q) : FnG P w K mg base (tT q) false 1 t.d__law_mk_labels.f t.d__law_mk_labels.fd ["_law_cells"] 1 (sp__law_mk_labels q) := by
  rw [un__law_mk_labels]
  exact t.d__law_mk_labels.ok sc__law_mk_labels rfl fun A outer s H E hr gA =>
    mss_cons (ms_set 1 sc__law_mk_labels.nd (me_lst (ma_cons (me_int) (ma_nil)))) (mss_cons (ms_for (passes_of rfl) rfl (mi_enum t.n_enumerate (me_var 0)) (pg_tup rfl (pgs_cons (pg_name (i := 2) sc__law_mk_labels.nd rfl (by first | exact Or.inl rfl | exact Or.inr rfl)) (pgs_cons (pg_name (i := 3) sc__law_mk_labels.nd rfl (by first | exact Or.inl rfl | exact Or.inr rfl)) (pgs_nil)))) (gok_tp [2, 3] rfl) (mss_one (ms_if (mt_val (me_isi .str t.n_isinstance t.n_str (me_ix (me_var 3) (me_int)))) (mss_cons (ms_set 1 sc__law_mk_labels.nd (me_if (mt_cmp (op_inM (u64 hr)) mo_in (me_ix (me_var 3) (me_int)) (me_lst (ma_cons (me_str) (ma_cons (me_str) (ma_nil))))) (me_op op_addM mo_add (me_var 1) (me_lst (ma_cons (me_ix (me_var 3) (me_int)) (ma_nil)))) (me_var 1))) (mss_one (ms_set 1 sc__law_mk_labels.nd (me_if (mt_cmp op_lt mo_lt (me_op op_addM mo_add (me_var 2) (me_int)) (me_fnB call_lenM mf_len t.n_len (by decide +kernel) (ma_cons (me_var 0) (ma_nil)))) (me_op op_addM mo_add (me_var 1) (me_lst (ma_cons (me_op op_addM mo_add (me_var 2) (me_int)) (ma_nil)))) (me_var 1))))) (mss_nil)))) (mss_one (ms_ret (me_lcI (own := [("_law_at", 2)]) rfl sc__law_mk_labels.nd (mi_rg1 t.n_range (me_fnB call_lenM mf_len t.n_len (by decide +kernel) (ma_cons (me_var 0) (ma_nil)))) (gow_nm 2) (blkOk_by (N := N__law_mk_labels) (sc := defScope (top 65)) (by decide +kernel)) (fun _ _ _ _ _ => pg_name (i := 2) sc__law_mk_labels.nd rfl (by first | exact Or.inl rfl | exact Or.inr rfl)) (fun _ _ _ _ _ => mt_cmp (op_inM (u64 hr)) mo_in (me_var 2) (me_var 1)) (fun _ _ _ _ _ => me_var 2)))))
theorem ex__law_mk_stretches : ∃ f : Ads → MSp, f = fun q => mDef 5 (mSeq (mAsg (mTup [mCall (sp__law_mk_labels q) [mVar 0], mLst [], mC (.int 0)]) (.tp [1, 2, 3])) (mSeq (mWhile (mVal (mOp fLt (mVar 3) (mFn fLen [mVar 0]))) (mSeq (mAsg (mVar 3) (.nm 4)) (mSeq (mWhile (mAnd (mVal (mOp fLt (mVar 4) (mFn fLen [mVar 0]))) (mAnd (mVal (mIsi .int (mOp fIx (mOp fIx (mVar 0) (mVar 4)) (mC (.int 0))))) (mOr (mVal (mOp fEq (mVar 4) (mVar 3))) (mVal (mOp fNotIn (mVar 4) (mVar 1)))))) (mAsg (mOp fAdd (mVar 4) (mC (.int 1))) (.nm 4))) (mSeq (mIfS (mVal (mOp fGt (mVar 4) (mVar 3))) (mDrop (mMeth fAppend (mVar 2) [mTup [mVar 3, mVar 4]])) (mNext)) (mAsg (mFn (fI2 fun i j => if j > i then j else i) [mVar 4, mOp fAdd (mVar 3) (mC (.int 1))]) (.nm 3)))))) (mRet (mVar 2)))) := ⟨_, rfl⟩
noncomputable def sp__law_mk_stretches (q : Ads) : MSp := ex__law_mk_stretches.choose q
theorem un__law_mk_stretches (q : Ads) : sp__law_mk_stretches q = mDef 5 (mSeq (mAsg (mTup [mCall (sp__law_mk_labels q) [mVar 0], mLst [], mC (.int 0)]) (.tp [1, 2, 3])) (mSeq (mWhile (mVal (mOp fLt (mVar 3) (mFn fLen [mVar 0]))) (mSeq (mAsg (mVar 3) (.nm 4)) (mSeq (mWhile (mAnd (mVal (mOp fLt (mVar 4) (mFn fLen [mVar 0]))) (mAnd (mVal (mIsi .int (mOp fIx (mOp fIx (mVar 0) (mVar 4)) (mC (.int 0))))) (mOr (mVal (mOp fEq (mVar 4) (mVar 3))) (mVal (mOp fNotIn (mVar 4) (mVar 1)))))) (mAsg (mOp fAdd (mVar 4) (mC (.int 1))) (.nm 4))) (mSeq (mIfS (mVal (mOp fGt (mVar 4) (mVar 3))) (mDrop (mMeth fAppend (mVar 2) [mTup [mVar 3, mVar 4]])) (mNext)) (mAsg (mFn (fI2 fun i j => if j > i then j else i) [mVar 4, mOp fAdd (mVar 3) (mC (.int 1))]) (.nm 3)))))) (mRet (mVar 2)))) := congrFun ex__law_mk_stretches.choose_spec q
abbrev N__law_mk_stretches : List Str := ["_law_cells", "_law_labels", "_law_found", "_law_at", "_law_end"]
theorem sc__law_mk_stretches : FnScope N__law_mk_stretches ["_law_cells"] (defScope (top 66)) := ⟨rfl, rfl, rfl, by decide +kernel, rfl, by decide +kernel, by decide +kernel⟩
theorem ok__law_mk_stretches (t : Txt K mg base q) : FnG P w K mg base (tT q) false 2 t.d__law_mk_stretches.f t.d__law_mk_stretches.fd ["_law_cells"] 1 (sp__law_mk_stretches q) := by
  rw [un__law_mk_stretches]
  exact t.d__law_mk_stretches.ok sc__law_mk_stretches rfl fun A outer s H E hr gA =>
    mss_cons (ms_par3 1 2 3 rfl sc__law_mk_stretches.nd (ma_cons (me_call (ok__law_mk_labels t) (hr.mono (by decide)) (fun h => nomatch h) t.d__law_mk_labels.m t.d__law_mk_labels.k t.d__law_mk_labels.b (takes_of rfl rfl rfl rfl) (ma_cons (me_var 0) (ma_nil))) (ma_cons (me_lst (ma_nil)) (ma_cons (me_int) (ma_nil))))) (mss_cons (ms_while (passes_of rfl) (mt_cmp op_lt mo_lt (me_var 3) (me_fnB call_lenM mf_len t.n_len (by decide +kernel) (ma_cons (me_var 0) (ma_nil)))) (mss_cons (ms_set 4 sc__law_mk_stretches.nd (me_var 3)) (mss_cons (ms_while (passes_of rfl) (mt_bool (mw_and (mt_cmp op_lt mo_lt (me_var 4) (me_fnB call_lenM mf_len t.n_len (by decide +kernel) (ma_cons (me_var 0) (ma_nil)))) (mw_and (mt_val (me_isi .int t.n_isinstance t.n_int (me_ix (me_ix (me_var 0) (me_var 4)) (me_int)))) (mw_and1 (mt_bool (mw_or (mt_cmp (op_eqM (u64 hr)) mo_eq (me_var 4) (me_var 3)) (mw_or1 (mt_cmp (op_notInM (u64 hr)) mo_notIn (me_var 4) (me_var 1))))))))) (mss_one (ms_set 4 sc__law_mk_stretches.nd (me_op op_addM mo_add (me_var 4) (me_int))))) (mss_cons (ms_if (mt_cmp op_gt mo_gt (me_var 4) (me_var 3)) (mss_one (ms_expr (me_meth PySem.F.slot_list_append PySem.F.type_list_append mt_append met_append (me_var 2) (ma_cons (me_tup (ma_cons (me_var 3) (ma_cons (me_var 4) (ma_nil)))) (ma_nil))))) (mss_nil)) (mss_one (ms_set 3 sc__law_mk_stretches.nd (me_fnB (call_max2 rfl) mf_max t.n_max (by decide +kernel) (ma_cons (me_var 4) (ma_cons (me_op op_addM mo_add (me_var 3) (me_int)) (ma_nil)))))))))) (mss_one (ms_ret (me_var 2))))
theorem ex__law_mk_swaps : ∃ f : Ads → MSp, f = fun q => mDef 5 (mSeq (mAsg (mLst []) (.nm 1)) (mSeq (mFor (miSeq (mCall (sp__law_mk_stretches q) [mVar 0])) (.tp [2, 3]) (mFor (miRg2 (mVar 2) (mOp fSub (mVar 3) (mC (.int 1)))) (.nm 4) (mIfS (mVal (mOp fNe (mOp fIx (mOp fIx (mVar 0) (mVar 4)) (mC (.int 0))) (mOp fIx (mOp fIx (mVar 0) (mOp fAdd (mVar 4) (mC (.int 1)))) (mC (.int 0))))) (mDrop (mMeth fAppend (mVar 1) [mVar 4])) (mNext)))) (mRet (mVar 1)))) := ⟨_, rfl⟩
noncomputable def sp__law_mk_swaps (q : Ads) : MSp := ex__law_mk_swaps.choose q
theorem un__law_mk_swaps (q : Ads) : sp__law_mk_swaps q = mDef 5 (mSeq (mAsg (mLst []) (.nm 1)) (mSeq (mFor (miSeq (mCall (sp__law_mk_stretches q) [mVar 0])) (.tp [2, 3]) (mFor (miRg2 (mVar 2) (mOp fSub (mVar 3) (mC (.int 1)))) (.nm 4) (mIfS (mVal (mOp fNe (mOp fIx (mOp fIx (mVar 0) (mVar 4)) (mC (.int 0))) (mOp fIx (mOp fIx (mVar 0) (mOp fAdd (mVar 4) (mC (.int 1)))) (mC (.int 0))))) (mDrop (mMeth fAppend (mVar 1) [mVar 4])) (mNext)))) (mRet (mVar 1)))) := congrFun ex__law_mk_swaps.choose_spec q
abbrev N__law_mk_swaps : List Str := ["_law_cells", "_law_found", "_law_first", "_law_end", "_law_at"]
theorem sc__law_mk_swaps : FnScope N__law_mk_swaps ["_law_cells"] (defScope (top 67)) := ⟨rfl, rfl, rfl, by decide +kernel, rfl, by decide +kernel, by decide +kernel⟩
theorem ok__law_mk_swaps (t : Txt K mg base q) : FnG P w K mg base (tT q) false 3 t.d__law_mk_swaps.f t.d__law_mk_swaps.fd ["_law_cells"] 1 (sp__law_mk_swaps q) := by
  rw [un__law_mk_swaps]
  exact t.d__law_mk_swaps.ok sc__law_mk_swaps rfl fun A outer s H E hr gA =>
    mss_cons (ms_set 1 sc__law_mk_swaps.nd (me_lst (ma_nil))) (mss_cons (ms_for (passes_of rfl) rfl (mi_seq (me_call (ok__law_mk_stretches t) (hr.mono (by decide)) (fun h => nomatch h) t.d__law_mk_stretches.m t.d__law_mk_stretches.k t.d__law_mk_stretches.b (takes_of rfl rfl rfl rfl) (ma_cons (me_var 0) (ma_nil)))) (pg_tup rfl (pgs_cons (pg_name (i := 2) sc__law_mk_swaps.nd rfl (by first | exact Or.inl rfl | exact Or.inr rfl)) (pgs_cons (pg_name (i := 3) sc__law_mk_swaps.nd rfl (by first | exact Or.inl rfl | exact Or.inr rfl)) (pgs_nil)))) (gok_tp [2, 3] rfl) (mss_one (ms_for (passes_of rfl) rfl (mi_rg2 t.n_range (me_var 2) (me_op op_sub mo_sub (me_var 3) (me_int))) (pg_name (i := 4) sc__law_mk_swaps.nd rfl (by first | exact Or.inl rfl | exact Or.inr rfl)) (gok_nm 4) (mss_one (ms_if (mt_cmp (op_neM (u64 hr)) mo_ne (me_ix (me_ix (me_var 0) (me_var 4)) (me_int)) (me_ix (me_ix (me_var 0) (me_op op_addM mo_add (me_var 4) (me_int))) (me_int))) (mss_one (ms_expr (me_meth PySem.F.slot_list_append PySem.F.type_list_append mt_append met_append (me_var 1) (ma_cons (me_var 4) (ma_nil))))) (mss_nil)))))) (mss_one (ms_ret (me_var 1))))
theorem ex__law_mk_swapped : ∃ f : Ads → MSp, f = fun q => mDef 3 (mSeq (mAsg (mOp fIx (mVar 0) (mC (.int 2))) (.nm 2)) (mRet (mTup [mOp fIx (mVar 0) (mC (.int 0)), mOp fIx (mVar 0) (mC (.int 1)), mOp fAdd (mOp fAdd (mSl (mVar 2) none (some (mVar 1))) (mTup [mOp fIx (mVar 2) (mOp fAdd (mVar 1) (mC (.int 1))), mOp fIx (mVar 2) (mVar 1)])) (mSl (mVar 2) (some (mOp fAdd (mVar 1) (mC (.int 2)))) none), mOp fIx (mVar 0) (mC (.int 3))]))) := ⟨_, rfl⟩
noncomputable def sp__law_mk_swapped (q : Ads) : MSp := ex__law_mk_swapped.choose q
theorem un__law_mk_swapped (q : Ads) : sp__law_mk_swapped q = mDef 3 (mSeq (mAsg (mOp fIx (mVar 0) (mC (.int 2))) (.nm 2)) (mRet (mTup [mOp fIx (mVar 0) (mC (.int 0)), mOp fIx (mVar 0) (mC (.int 1)), mOp fAdd (mOp fAdd (mSl (mVar 2) none (some (mVar 1))) (mTup [mOp fIx (mVar 2) (mOp fAdd (mVar 1) (mC (.int 1))), mOp fIx (mVar 2) (mVar 1)])) (mSl (mVar 2) (some (mOp fAdd (mVar 1) (mC (.int 2)))) none), mOp fIx (mVar 0) (mC (.int 3))]))) := congrFun ex__law_mk_swapped.choose_spec q
abbrev N__law_mk_swapped : List Str := ["_law_code", "_law_at", "_law_cells"]
theorem sc__law_mk_swapped : FnScope N__law_mk_swapped ["_law_code", "_law_at"] (defScope (top 68)) := ⟨rfl, rfl, rfl, by decide +kernel, rfl, by decide +kernel, by decide +kernel⟩
theorem ok__law_mk_swapped (t : Txt K mg base q) : FnG P w K mg base (tT q) false 1 t.d__law_mk_swapped.f t.d__law_mk_swapped.fd ["_law_code", "_law_at"] 2 (sp__law_mk_swapped q) := by
  rw [un__law_mk_swapped]
  exact t.d__law_mk_swapped.ok sc__law_mk_swapped rfl fun A outer s H E hr gA =>
    mss_cons (ms_set 2 sc__law_mk_swapped.nd (me_ix (me_var 0) (me_int))) (mss_one (ms_ret (me_tup (ma_cons (me_ix (me_var 0) (me_int)) (ma_cons (me_ix (me_var 0) (me_int)) (ma_cons (me_op op_addM mo_add (me_op op_addM mo_add (me_slice (me_var 2) mo_none (mo_some (me_var 1))) (me_tup (ma_cons (me_ix (me_var 2) (me_op op_addM mo_add (me_var 1) (me_int))) (ma_cons (me_ix (me_var 2) (me_var 1)) (ma_nil))))) (me_slice (me_var 2) (mo_some (me_op op_addM mo_add (me_var 1) (me_int))) mo_none)) (ma_cons (me_ix (me_var 0) (me_int)) (ma_nil))))))))
theorem ex__law_mk_ordered : ∃ f : Ads → MSp, f = fun q => mDef 4 (mSeq (mAsg (mFn fList [mOp fIx (mVar 0) (mC (.int 2))]) (.nm 1)) (mSeq (mFor (miSeq (mCall (sp__law_mk_stretches q) [mOp fIx (mVar 0) (mC (.int 2))])) (.tp [2, 3]) (mPutSl (mSortK (mSl (mVar 1) (some (mVar 2)) (some (mVar 3)))) (mVar 1) (mVar 2) (mVar 3))) (mRet (mTup [mOp fIx (mVar 0) (mC (.int 0)), mOp fIx (mVar 0) (mC (.int 1)), mFn fTuple [mVar 1], mOp fIx (mVar 0) (mC (.int 3))])))) := ⟨_, rfl⟩
noncomputable def sp__law_mk_ordered (q : Ads) : MSp := ex__law_mk_ordered.choose q
theorem un__law_mk_ordered (q : Ads) : sp__law_mk_ordered q = mDef 4 (mSeq (mAsg (mFn fList [mOp fIx (mVar 0) (mC (.int 2))]) (.nm 1)) (mSeq (mFor (miSeq (mCall (sp__law_mk_stretches q) [mOp fIx (mVar 0) (mC (.int 2))])) (.tp [2, 3]) (mPutSl (mSortK (mSl (mVar 1) (some (mVar 2)) (some (mVar 3)))) (mVar 1) (mVar 2) (mVar 3))) (mRet (mTup [mOp fIx (mVar 0) (mC (.int 0)), mOp fIx (mVar 0) (mC (.int 1)), mFn fTuple [mVar 1], mOp fIx (mVar 0) (mC (.int 3))])))) := congrFun ex__law_mk_ordered.choose_spec q
abbrev N__law_mk_ordered : List Str := ["_law_code", "_law_cells", "_law_first", "_law_end"]
theorem sc__law_mk_ordered : FnScope N__law_mk_ordered ["_law_code"] (defScope (top 69)) := ⟨rfl, rfl, rfl, by decide +kernel, rfl, by decide +kernel, by decide +kernel⟩
theorem ok__law_mk_ordered (t : Txt K mg base q) : FnG P w K mg base (tT q) false 3 t.d__law_mk_ordered.f t.d__law_mk_ordered.fd ["_law_code"] 1 (sp__law_mk_ordered q) := by
  rw [un__law_mk_ordered]
  exact t.d__law_mk_ordered.ok sc__law_mk_ordered rfl fun A outer s H E hr gA =>
    mss_cons (ms_set 1 sc__law_mk_ordered.nd (me_fnT call_list_of mf_list t.n_list (by decide +kernel) (ma_cons (me_ix (me_var 0) (me_int)) (ma_nil)))) (mss_cons (ms_for (passes_of rfl) rfl (mi_seq (me_call (ok__law_mk_stretches t) (hr.mono (by decide)) (fun h => nomatch h) t.d__law_mk_stretches.m t.d__law_mk_stretches.k t.d__law_mk_stretches.b (takes_of rfl rfl rfl rfl) (ma_cons (me_ix (me_var 0) (me_int)) (ma_nil)))) (pg_tup rfl (pgs_cons (pg_name (i := 2) sc__law_mk_ordered.nd rfl (by first | exact Or.inl rfl | exact Or.inr rfl)) (pgs_cons (pg_name (i := 3) sc__law_mk_ordered.nd rfl (by first | exact Or.inl rfl | exact Or.inr rfl)) (pgs_nil)))) (gok_tp [2, 3] rfl) (mss_one (ms_putSl (me_sortK hr t.n_sorted (me_slice (me_var 1) (mo_some (me_var 2)) (mo_some (me_var 3))) t.tb__law_mk_ordered t.c__law_mk_ordered (mT__law_mk_ordered q) (uT__law_mk_ordered t) rfl (fun _ _ _ _ _ _ => rfl)) (me_var 1) (me_var 2) (me_var 3)))) (mss_one (ms_ret (me_tup (ma_cons (me_ix (me_var 0) (me_int)) (ma_cons (me_ix (me_var 0) (me_int)) (ma_cons (me_fnT call_tuple_of mf_tuple t.n_tuple (by decide +kernel) (ma_cons (me_var 1) (ma_nil))) (ma_cons (me_ix (me_var 0) (me_int)) (ma_nil)))))))))
theorem ex__law_mk_no_schedules : ∃ f : Ads → MSp, f = fun q => mDef 8 (mSeq (mAsg (mTup [mOp fIx (mVar 1) (mC (.int 2)), mCall (sp__law_draw q) [mVar 0, mFn fLen [mOp fIx (mVar 1) (mC (.int 2))]]]) (.tp [6, 7])) (mSeq (mAsg (mOp fIx (mVar 6) (mVar 7)) (.nm 2)) (mSeq (mAsg (mIf (mVal (mIsi .int (mOp fIx (mVar 2) (mC (.int 0))))) (mOp fAdd (mTup [mOp fAdd (mOp fIx (mVar 2) (mC (.int 0))) (mC (.int 1))]) (mSl (mVar 2) (some (mC (.int 1))) none)) (mTup [mC (.str "stop")])) (.nm 3)) (mSeq (mIfS (mVal (mOp fEq (mVar 2) (mTup [mC (.str "stop")]))) (mAsg (mTup [mC (.str "mark")]) (.nm 3)) (mNext)) (mSeq (mAsg (mLst [mC .non, mC (.int 5), mSl (mVar 1) none (some (mC (.int 3))), mFn fList [mVar 1], mTup [mOp fIx (mVar 1) (mC (.int 0)), mOp fIx (mVar 1) (mC (.int 1)), mOp fAdd (mVar 6) (mTup [mTup [mC (.str "stop")]]), mOp fIx (mVar 1) (mC (.int 3))]]) (.nm 4)) (mSeq (mDrop (mMeth fAppend (mVar 4) [mTup [mOp fIx (mVar 1) (mC (.int 0)), mOp fIx (mVar 1) (mC (.int 1)), mOp fAdd (mOp fAdd (mSl (mVar 6) none (some (mVar 7))) (mTup [mVar 3])) (mSl (mVar 6) (some (mOp fAdd (mVar 7) (mC (.int 1)))) none), mOp fIx (mVar 1) (mC (.int 3))]])) (mSeq (mAsg (mTup [mOp fIx (mVar 1) (mC (.int 0)), mOp fIx (mVar 1) (mC (.int 1)), mOp fAdd (mOp fAdd (mOp fAdd (mSl (mVar 6) none (some (mVar 7))) (mSl (mVar 6) (some (mOp fAdd (mVar 7) (mC (.int 1)))) (some (mOp fAdd (mVar 7) (mC (.int 2)))))) (mSl (mVar 6) (some (mVar 7)) (some (mOp fAdd (mVar 7) (mC (.int 1)))))) (mSl (mVar 6) (some (mOp fAdd (mVar 7) (mC (.int 2)))) none), mOp fIx (mVar 1) (mC (.int 3))]) (.nm 5)) (mRet (mIf (mVal (mOp fNe (mCall (sp__law_mk_ordered q) [mVar 5]) (mCall (sp__law_mk_ordered q) [mVar 1]))) (mOp fAdd (mVar 4) (mLst [mVar 5])) (mVar 4)))))))))) := ⟨_, rfl⟩
noncomputable def sp__law_mk_no_schedules (q : Ads) : MSp := ex__law_mk_no_schedules.choose q
theorem un__law_mk_no_schedules (q : Ads) : sp__law_mk_no_schedules q = mDef 8 (mSeq (mAsg (mTup [mOp fIx (mVar 1) (mC (.int 2)), mCall (sp__law_draw q) [mVar 0, mFn fLen [mOp fIx (mVar 1) (mC (.int 2))]]]) (.tp [6, 7])) (mSeq (mAsg (mOp fIx (mVar 6) (mVar 7)) (.nm 2)) (mSeq (mAsg (mIf (mVal (mIsi .int (mOp fIx (mVar 2) (mC (.int 0))))) (mOp fAdd (mTup [mOp fAdd (mOp fIx (mVar 2) (mC (.int 0))) (mC (.int 1))]) (mSl (mVar 2) (some (mC (.int 1))) none)) (mTup [mC (.str "stop")])) (.nm 3)) (mSeq (mIfS (mVal (mOp fEq (mVar 2) (mTup [mC (.str "stop")]))) (mAsg (mTup [mC (.str "mark")]) (.nm 3)) (mNext)) (mSeq (mAsg (mLst [mC .non, mC (.int 5), mSl (mVar 1) none (some (mC (.int 3))), mFn fList [mVar 1], mTup [mOp fIx (mVar 1) (mC (.int 0)), mOp fIx (mVar 1) (mC (.int 1)), mOp fAdd (mVar 6) (mTup [mTup [mC (.str "stop")]]), mOp fIx (mVar 1) (mC (.int 3))]]) (.nm 4)) (mSeq (mDrop (mMeth fAppend (mVar 4) [mTup [mOp fIx (mVar 1) (mC (.int 0)), mOp fIx (mVar 1) (mC (.int 1)), mOp fAdd (mOp fAdd (mSl (mVar 6) none (some (mVar 7))) (mTup [mVar 3])) (mSl (mVar 6) (some (mOp fAdd (mVar 7) (mC (.int 1)))) none), mOp fIx (mVar 1) (mC (.int 3))]])) (mSeq (mAsg (mTup [mOp fIx (mVar 1) (mC (.int 0)), mOp fIx (mVar 1) (mC (.int 1)), mOp fAdd (mOp fAdd (mOp fAdd (mSl (mVar 6) none (some (mVar 7))) (mSl (mVar 6) (some (mOp fAdd (mVar 7) (mC (.int 1)))) (some (mOp fAdd (mVar 7) (mC (.int 2)))))) (mSl (mVar 6) (some (mVar 7)) (some (mOp fAdd (mVar 7) (mC (.int 1)))))) (mSl (mVar 6) (some (mOp fAdd (mVar 7) (mC (.int 2)))) none), mOp fIx (mVar 1) (mC (.int 3))]) (.nm 5)) (mRet (mIf (mVal (mOp fNe (mCall (sp__law_mk_ordered q) [mVar 5]) (mCall (sp__law_mk_ordered q) [mVar 1]))) (mOp fAdd (mVar 4) (mLst [mVar 5])) (mVar 4)))))))))) := congrFun ex__law_mk_no_schedules.choose_spec q
abbrev N__law_mk_no_schedules : List Str := ["_law_state", "_law_code", "_law_cell", "_law_fresh", "_law_found", "_law_turned", "_law_cells", "_law_at"]
theorem sc__law_mk_no_schedules : FnScope N__law_mk_no_schedules ["_law_state", "_law_code"] (defScope (top 70)) := ⟨rfl, rfl, rfl, by decide +kernel, rfl, by decide +kernel, by decide +kernel⟩
theorem ok__law_mk_no_schedules (t : Txt K mg base q) : FnG P w K mg base (tT q) false 4 t.d__law_mk_no_schedules.f t.d__law_mk_no_schedules.fd ["_law_state", "_law_code"] 2 (sp__law_mk_no_schedules q) := by
  rw [un__law_mk_no_schedules]
  exact t.d__law_mk_no_schedules.ok sc__law_mk_no_schedules rfl fun A outer s H E hr gA =>
    mss_cons (ms_par 6 7 rfl sc__law_mk_no_schedules.nd (ma_cons (me_ix (me_var 1) (me_int)) (ma_cons (me_call (ok__law_draw t) (hr.mono (by decide)) (fun h => nomatch h) t.d__law_draw.m t.d__law_draw.k t.d__law_draw.b (takes_of rfl rfl rfl rfl) (ma_cons (me_var 0) (ma_cons (me_fnB call_lenM mf_len t.n_len (by decide +kernel) (ma_cons (me_ix (me_var 1) (me_int)) (ma_nil))) (ma_nil)))) (ma_nil)))) (mss_cons (ms_set 2 sc__law_mk_no_schedules.nd (me_ix (me_var 6) (me_var 7))) (mss_cons (ms_set 3 sc__law_mk_no_schedules.nd (me_if (mt_val (me_isi .int t.n_isinstance t.n_int (me_ix (me_var 2) (me_int)))) (me_op op_addM mo_add (me_tup (ma_cons (me_op op_addM mo_add (me_ix (me_var 2) (me_int)) (me_int)) (ma_nil))) (me_slice (me_var 2) (mo_some (me_int)) mo_none)) (me_tup (ma_cons (me_str) (ma_nil))))) (mss_cons (ms_if (mt_cmp (op_eqM (u64 hr)) mo_eq (me_var 2) (me_tup (ma_cons (me_str) (ma_nil)))) (mss_one (ms_set 3 sc__law_mk_no_schedules.nd (me_tup (ma_cons (me_str) (ma_nil))))) (mss_nil)) (mss_cons (ms_set 4 sc__law_mk_no_schedules.nd (me_lst (ma_cons (me_non) (ma_cons (me_int) (ma_cons (me_slice (me_var 1) mo_none (mo_some (me_int))) (ma_cons (me_fnT call_list_of mf_list t.n_list (by decide +kernel) (ma_cons (me_var 1) (ma_nil))) (ma_cons (me_tup (ma_cons (me_ix (me_var 1) (me_int)) (ma_cons (me_ix (me_var 1) (me_int)) (ma_cons (me_op op_addM mo_add (me_var 6) (me_tup (ma_cons (me_tup (ma_cons (me_str) (ma_nil))) (ma_nil)))) (ma_cons (me_ix (me_var 1) (me_int)) (ma_nil)))))) (ma_nil)))))))) (mss_cons (ms_expr (me_meth PySem.F.slot_list_append PySem.F.type_list_append mt_append met_append (me_var 4) (ma_cons (me_tup (ma_cons (me_ix (me_var 1) (me_int)) (ma_cons (me_ix (me_var 1) (me_int)) (ma_cons (me_op op_addM mo_add (me_op op_addM mo_add (me_slice (me_var 6) mo_none (mo_some (me_var 7))) (me_tup (ma_cons (me_var 3) (ma_nil)))) (me_slice (me_var 6) (mo_some (me_op op_addM mo_add (me_var 7) (me_int))) mo_none)) (ma_cons (me_ix (me_var 1) (me_int)) (ma_nil)))))) (ma_nil)))) (mss_cons (ms_set 5 sc__law_mk_no_schedules.nd (me_tup (ma_cons (me_ix (me_var 1) (me_int)) (ma_cons (me_ix (me_var 1) (me_int)) (ma_cons (me_op op_addM mo_add (me_op op_addM mo_add (me_op op_addM mo_add (me_slice (me_var 6) mo_none (mo_some (me_var 7))) (me_slice (me_var 6) (mo_some (me_op op_addM mo_add (me_var 7) (me_int))) (mo_some (me_op op_addM mo_add (me_var 7) (me_int))))) (me_slice (me_var 6) (mo_some (me_var 7)) (mo_some (me_op op_addM mo_add (me_var 7) (me_int))))) (me_slice (me_var 6) (mo_some (me_op op_addM mo_add (me_var 7) (me_int))) mo_none)) (ma_cons (me_ix (me_var 1) (me_int)) (ma_nil))))))) (mss_one (ms_ret (me_if (mt_cmp (op_neM (u64 hr)) mo_ne (me_call (ok__law_mk_ordered t) (hr.mono (by decide)) (fun h => nomatch h) t.d__law_mk_ordered.m t.d__law_mk_ordered.k t.d__law_mk_ordered.b (takes_of rfl rfl rfl rfl) (ma_cons (me_var 5) (ma_nil))) (me_call (ok__law_mk_ordered t) (hr.mono (by decide)) (fun h => nomatch h) t.d__law_mk_ordered.m t.d__law_mk_ordered.k t.d__law_mk_ordered.b (takes_of rfl rfl rfl rfl) (ma_cons (me_var 1) (ma_nil)))) (me_op op_addM mo_add (me_var 4) (me_lst (ma_cons (me_var 5) (ma_nil)))) (me_var 4))))))))))
theorem ex__law_mk_own_told : ∃ f : Ads → MSp, f = fun q => mDef 4 (mRet (mLc (miSeq (mCall (sp_instructions q) [mVar 0, mVar 1])) (.tp [2, 3]) mYes (mVar 3) [2, 3])) := ⟨_, rfl⟩
noncomputable def sp__law_mk_own_told (q : Ads) : MSp := ex__law_mk_own_told.choose q
theorem un__law_mk_own_told (q : Ads) : sp__law_mk_own_told q = mDef 4 (mRet (mLc (miSeq (mCall (sp_instructions q) [mVar 0, mVar 1])) (.tp [2, 3]) mYes (mVar 3) [2, 3])) := congrFun ex__law_mk_own_told.choose_spec q
abbrev N__law_mk_own_told : List Str := ["_law_code", "_law_hue", "_law_at", "_law_cell"]
theorem sc__law_mk_own_told : FnScope N__law_mk_own_told ["_law_code", "_law_hue"] (defScope (top 71)) := ⟨rfl, rfl, rfl, by decide +kernel, rfl, by decide +kernel, by decide +kernel⟩
theorem ok__law_mk_own_told (t : Txt K mg base q) : FnG P w K mg base (tT q) false 9 t.d__law_mk_own_told.f t.d__law_mk_own_told.fd ["_law_code", "_law_hue"] 2 (sp__law_mk_own_told q) := by
  rw [un__law_mk_own_told]
  exact t.d__law_mk_own_told.ok sc__law_mk_own_told rfl fun A outer s H E hr gA =>
    mss_one (ms_ret (me_lc (own := [("_law_at", 2), ("_law_cell", 3)]) rfl sc__law_mk_own_told.nd (mi_seq (me_call (ok_instructions t) (hr.mono (by decide)) (fun h => nomatch h) t.d_instructions.m t.d_instructions.k t.d_instructions.b (takes_of rfl rfl rfl rfl) (ma_cons (me_var 0) (ma_cons (me_var 1) (ma_nil))))) (gow_tp [2, 3] rfl (by decide)) (blkOk_by (N := N__law_mk_own_told) (sc := defScope (top 71)) (by decide +kernel)) (fun _ _ _ _ _ => pg_tup rfl (pgs_cons (pg_name (i := 2) sc__law_mk_own_told.nd rfl (by first | exact Or.inl rfl | exact Or.inr rfl)) (pgs_cons (pg_name (i := 3) sc__law_mk_own_told.nd rfl (by first | exact Or.inl rfl | exact Or.inr rfl)) (pgs_nil)))) (fun _ _ _ _ _ => me_var 3)))
theorem ex__law_mk_lists_right : ∃ f : Ads → MSp, f = fun q => mDef 1 (mSeq (mIfS (mVal (mOp fNe (mFn fRepr [mCall (fun RX ws M R => sp_labels_of q RX ws.reverse M R) [mVar 0]]) (mFn fRepr [mCall (sp__law_mk_labels q) [mOp fIx (mVar 0) (mC (.int 2))]]))) (mRet (mC (.bl false))) (mNext)) (mSeq (mIfS (mVal (mOp fNe (mFn fRepr [mCall (fun RX ws M R => sp_stretches q RX ws.reverse M R) [mVar 0]]) (mFn fRepr [mCall (sp__law_mk_stretches q) [mOp fIx (mVar 0) (mC (.int 2))]]))) (mRet (mC (.bl false))) (mNext)) (mRet (mOp fEq (mFn fRepr [mCall (fun RX ws M R => sp_exchangeable q RX ws.reverse M R) [mVar 0]]) (mFn fRepr [mCall (sp__law_mk_swaps q) [mOp fIx (mVar 0) (mC (.int 2))]]))))) := ⟨_, rfl⟩
noncomputable def sp__law_mk_lists_right (q : Ads) : MSp := ex__law_mk_lists_right.choose q
theorem un__law_mk_lists_right (q : Ads) : sp__law_mk_lists_right q = mDef 1 (mSeq (mIfS (mVal (mOp fNe (mFn fRepr [mCall (fun RX ws M R => sp_labels_of q RX ws.reverse M R) [mVar 0]]) (mFn fRepr [mCall (sp__law_mk_labels q) [mOp fIx (mVar 0) (mC (.int 2))]]))) (mRet (mC (.bl false))) (mNext)) (mSeq (mIfS (mVal (mOp fNe (mFn fRepr [mCall (fun RX ws M R => sp_stretches q RX ws.reverse M R) [mVar 0]]) (mFn fRepr [mCall (sp__law_mk_stretches q) [mOp fIx (mVar 0) (mC (.int 2))]]))) (mRet (mC (.bl false))) (mNext)) (mRet (mOp fEq (mFn fRepr [mCall (fun RX ws M R => sp_exchangeable q RX ws.reverse M R) [mVar 0]]) (mFn fRepr [mCall (sp__law_mk_swaps q) [mOp fIx (mVar 0) (mC (.int 2))]]))))) := congrFun ex__law_mk_lists_right.choose_spec q
abbrev N__law_mk_lists_right : List Str := ["_law_code"]
theorem sc__law_mk_lists_right : FnScope N__law_mk_lists_right ["_law_code"] (defScope (top 72)) := ⟨rfl, rfl, rfl, by decide +kernel, rfl, by decide +kernel, by decide +kernel⟩
theorem ok__law_mk_lists_right (t : Txt K mg base q) : FnG P w K mg base (tT q) true 9 t.d__law_mk_lists_right.f t.d__law_mk_lists_right.fd ["_law_code"] 1 (sp__law_mk_lists_right q) := by
  rw [un__law_mk_lists_right]
  exact t.d__law_mk_lists_right.ok sc__law_mk_lists_right rfl fun A outer s H E hr gA =>
    mss_cons (ms_if (mt_cmp (op_neM (u64 hr)) mo_ne (me_fnB (call_show (gA rfl) hr) mf_repr t.n_repr (by decide +kernel) (ma_cons (me_callR ["code"] t.d_labels_of (ok_labels_of t) (hr.mono (by decide)) (fun h => nomatch h) (fun _ _ _ _ _ ws hl => match ws, hl with | [_], _ => rfl) (takes_of rfl rfl rfl rfl) (mk_cons (me_var 0) (mk_nil))) (ma_nil))) (me_fnB (call_show (gA rfl) hr) mf_repr t.n_repr (by decide +kernel) (ma_cons (me_call (ok__law_mk_labels t) (hr.mono (by decide)) (fun h => nomatch h) t.d__law_mk_labels.m t.d__law_mk_labels.k t.d__law_mk_labels.b (takes_of rfl rfl rfl rfl) (ma_cons (me_ix (me_var 0) (me_int)) (ma_nil))) (ma_nil)))) (mss_one (ms_ret (me_bl))) (mss_nil)) (mss_cons (ms_if (mt_cmp (op_neM (u64 hr)) mo_ne (me_fnB (call_show (gA rfl) hr) mf_repr t.n_repr (by decide +kernel) (ma_cons (me_callR ["code"] t.d_stretches (ok_stretches t) (hr.mono (by decide)) (fun h => nomatch h) (fun _ _ _ _ _ ws hl => match ws, hl with | [_], _ => rfl) (takes_of rfl rfl rfl rfl) (mk_cons (me_var 0) (mk_nil))) (ma_nil))) (me_fnB (call_show (gA rfl) hr) mf_repr t.n_repr (by decide +kernel) (ma_cons (me_call (ok__law_mk_stretches t) (hr.mono (by decide)) (fun h => nomatch h) t.d__law_mk_stretches.m t.d__law_mk_stretches.k t.d__law_mk_stretches.b (takes_of rfl rfl rfl rfl) (ma_cons (me_ix (me_var 0) (me_int)) (ma_nil))) (ma_nil)))) (mss_one (ms_ret (me_bl))) (mss_nil)) (mss_one (ms_ret (me_cmp (op_eqM (u64 hr)) mo_eq (me_fnB (call_show (gA rfl) hr) mf_repr t.n_repr (by decide +kernel) (ma_cons (me_callR ["code"] t.d_exchangeable (ok_exchangeable t) (hr.mono (by decide)) (fun h => nomatch h) (fun _ _ _ _ _ ws hl => match ws, hl with | [_], _ => rfl) (takes_of rfl rfl rfl rfl) (mk_cons (me_var 0) (mk_nil))) (ma_nil))) (me_fnB (call_show (gA rfl) hr) mf_repr t.n_repr (by decide +kernel) (ma_cons (me_call (ok__law_mk_swaps t) (hr.mono (by decide)) (fun h => nomatch h) t.d__law_mk_swaps.m t.d__law_mk_swaps.k t.d__law_mk_swaps.b (takes_of rfl rfl rfl rfl) (ma_cons (me_ix (me_var 0) (me_int)) (ma_nil))) (ma_nil)))))))
theorem ex__law_mk_exchanges_right : ∃ f : Ads → MSp, f = fun q => mDef 12 (mSeq (mAsg (mVar 1) (.nm 2)) (mSeq (mFor (miRg1 (mC (.int 6))) (.nm 3) (mSeq (mAsg (mCall (sp__law_mk_swaps q) [mOp fIx (mVar 2) (mC (.int 2))]) (.nm 5)) (mSeq (mIfS (mVal (mOp fEq (mVar 5) (mLst []))) (mBrk) (mNext)) (mSeq (mAsg (mCall (sp__law_pick q) [mVar 0, mVar 5]) (.nm 6)) (mSeq (mAsg (mCall (fun RX ws M R => sp_exchanged q RX ws.reverse M R) [mVar 6, mVar 2]) (.nm 7)) (mSeq (mIfS (mOr (mVal (mOp fNe (mFn fRepr [mVar 7]) (mFn fRepr [mCall (sp__law_mk_swapped q) [mVar 2, mVar 6]]))) (mVal (mOp fNe (mCall (sp_exchanged q) [mVar 7, mVar 6]) (mVar 2)))) (mRet (mC (.bl false))) (mNext)) (mAsg (mVar 7) (.nm 2)))))))) (mSeq (mIfS (mOr (mNot (mVal (mCall (sp__law_mk_lists_right q) [mVar 2]))) (mOr (mVal (mOp fNe (mCall (sp_stretches q) [mVar 2]) (mCall (sp_stretches q) [mVar 1]))) (mVal (mOp fNe (mOp fIx (mVar 2) (mC (.int 3))) (mOp fIx (mVar 1) (mC (.int 3))))))) (mRet (mC (.bl false))) (mNext)) (mSeq (mFor (miRg1 (mFn fLen [mOp fIx (mVar 1) (mC (.int 0))])) (.nm 4) (mIfS (mVal (mOp fNe (mCall (sp__law_mk_own_told q) [mVar 2, mVar 4]) (mCall (sp__law_mk_own_told q) [mVar 1, mVar 4]))) (mRet (mC (.bl false))) (mNext))) (mSeq (mFor (miRg1 (mC (.int 6))) (.nm 3) (mSeq (mAsg (mCall (sp__law_draw q) [mVar 0, mFn fLen [mOp fIx (mVar 1) (mC (.int 2))]]) (.nm 6)) (mSeq (mAsg (mTup [mOp fIx (mOp fIx (mVar 1) (mC (.int 2))) (mVar 6), mCall (fun RX ws M R => sp_moved_address q RX ws.reverse M R) [mVar 6, mVar 2, mVar 1]]) (.tp [8, 9])) (mSeq (mIfS (mOr (mVal (mOp fNe (mOp fIx (mOp fIx (mVar 2) (mC (.int 2))) (mVar 9)) (mVar 8))) (mAnd (mVal (mIsi .str (mOp fIx (mVar 8) (mC (.int 0))))) (mVal (mOp fNe (mVar 9) (mVar 6))))) (mRet (mC (.bl false))) (mNext)) (mIfS (mVal (mIsi .int (mOp fIx (mVar 8) (mC (.int 0))))) (mSeq (mAsg (mTup [mCall (sp_instructions q) [mVar 2, mOp fIx (mVar 8) (mC (.int 0))], mCall (sp_instructions q) [mVar 1, mOp fIx (mVar 8) (mC (.int 0))]]) (.tp [10, 11])) (mIfS (mVal (mOp fNe (mMeth fIndex (mVar 10) [mTup [mVar 9, mVar 8]]) (mMeth fIndex (mVar 11) [mTup [mVar 6, mVar 8]]))) (mRet (mC (.bl false))) (mNext))) (mNext)))))) (mRet (mC (.bl true)))))))) := ⟨_, rfl⟩
noncomputable def sp__law_mk_exchanges_right (q : Ads) : MSp := ex__law_mk_exchanges_right.choose q
theorem un__law_mk_exchanges_right (q : Ads) : sp__law_mk_exchanges_right q = mDef 12 (mSeq (mAsg (mVar 1) (.nm 2)) (mSeq (mFor (miRg1 (mC (.int 6))) (.nm 3) (mSeq (mAsg (mCall (sp__law_mk_swaps q) [mOp fIx (mVar 2) (mC (.int 2))]) (.nm 5)) (mSeq (mIfS (mVal (mOp fEq (mVar 5) (mLst []))) (mBrk) (mNext)) (mSeq (mAsg (mCall (sp__law_pick q) [mVar 0, mVar 5]) (.nm 6)) (mSeq (mAsg (mCall (fun RX ws M R => sp_exchanged q RX ws.reverse M R) [mVar 6, mVar 2]) (.nm 7)) (mSeq (mIfS (mOr (mVal (mOp fNe (mFn fRepr [mVar 7]) (mFn fRepr [mCall (sp__law_mk_swapped q) [mVar 2, mVar 6]]))) (mVal (mOp fNe (mCall (sp_exchanged q) [mVar 7, mVar 6]) (mVar 2)))) (mRet (mC (.bl false))) (mNext)) (mAsg (mVar 7) (.nm 2)))))))) (mSeq (mIfS (mOr (mNot (mVal (mCall (sp__law_mk_lists_right q) [mVar 2]))) (mOr (mVal (mOp fNe (mCall (sp_stretches q) [mVar 2]) (mCall (sp_stretches q) [mVar 1]))) (mVal (mOp fNe (mOp fIx (mVar 2) (mC (.int 3))) (mOp fIx (mVar 1) (mC (.int 3))))))) (mRet (mC (.bl false))) (mNext)) (mSeq (mFor (miRg1 (mFn fLen [mOp fIx (mVar 1) (mC (.int 0))])) (.nm 4) (mIfS (mVal (mOp fNe (mCall (sp__law_mk_own_told q) [mVar 2, mVar 4]) (mCall (sp__law_mk_own_told q) [mVar 1, mVar 4]))) (mRet (mC (.bl false))) (mNext))) (mSeq (mFor (miRg1 (mC (.int 6))) (.nm 3) (mSeq (mAsg (mCall (sp__law_draw q) [mVar 0, mFn fLen [mOp fIx (mVar 1) (mC (.int 2))]]) (.nm 6)) (mSeq (mAsg (mTup [mOp fIx (mOp fIx (mVar 1) (mC (.int 2))) (mVar 6), mCall (fun RX ws M R => sp_moved_address q RX ws.reverse M R) [mVar 6, mVar 2, mVar 1]]) (.tp [8, 9])) (mSeq (mIfS (mOr (mVal (mOp fNe (mOp fIx (mOp fIx (mVar 2) (mC (.int 2))) (mVar 9)) (mVar 8))) (mAnd (mVal (mIsi .str (mOp fIx (mVar 8) (mC (.int 0))))) (mVal (mOp fNe (mVar 9) (mVar 6))))) (mRet (mC (.bl false))) (mNext)) (mIfS (mVal (mIsi .int (mOp fIx (mVar 8) (mC (.int 0))))) (mSeq (mAsg (mTup [mCall (sp_instructions q) [mVar 2, mOp fIx (mVar 8) (mC (.int 0))], mCall (sp_instructions q) [mVar 1, mOp fIx (mVar 8) (mC (.int 0))]]) (.tp [10, 11])) (mIfS (mVal (mOp fNe (mMeth fIndex (mVar 10) [mTup [mVar 9, mVar 8]]) (mMeth fIndex (mVar 11) [mTup [mVar 6, mVar 8]]))) (mRet (mC (.bl false))) (mNext))) (mNext)))))) (mRet (mC (.bl true)))))))) := congrFun ex__law_mk_exchanges_right.choose_spec q
abbrev N__law_mk_exchanges_right : List Str := ["_law_state", "_law_code", "_law_found", "_law_turn", "_law_hue", "_law_some", "_law_at", "_law_fresh", "_law_cell", "_law_goal", "_law_one", "_law_other"]
theorem sc__law_mk_exchanges_right : FnScope N__law_mk_exchanges_right ["_law_state", "_law_code"] (defScope (top 73)) := ⟨rfl, rfl, rfl, by decide +kernel, rfl, by decide +kernel, by decide +kernel⟩
theorem ok__law_mk_exchanges_right (t : Txt K mg base q) : FnG P w K mg base (tT q) true 11 t.d__law_mk_exchanges_right.f t.d__law_mk_exchanges_right.fd ["_law_state", "_law_code"] 2 (sp__law_mk_exchanges_right q) := by
  rw [un__law_mk_exchanges_right]
  exact t.d__law_mk_exchanges_right.ok sc__law_mk_exchanges_right rfl fun A outer s H E hr gA =>
    mss_cons (ms_set 2 sc__law_mk_exchanges_right.nd (me_var 1)) (mss_cons (ms_for (passes_of rfl) rfl (mi_rg1 t.n_range (me_int)) (pg_name (i := 3) sc__law_mk_exchanges_right.nd rfl (by first | exact Or.inl rfl | exact Or.inr rfl)) (gok_nm 3) (mss_cons (ms_set 5 sc__law_mk_exchanges_right.nd (me_call (ok__law_mk_swaps t) (hr.mono (by decide)) (fun h => nomatch h) t.d__law_mk_swaps.m t.d__law_mk_swaps.k t.d__law_mk_swaps.b (takes_of rfl rfl rfl rfl) (ma_cons (me_ix (me_var 2) (me_int)) (ma_nil)))) (mss_cons (ms_if (mt_cmp (op_eqM (u64 hr)) mo_eq (me_var 5) (me_lst (ma_nil))) (mss_one (ms_brk)) (mss_nil)) (mss_cons (ms_set 6 sc__law_mk_exchanges_right.nd (me_call (ok__law_pick t) (hr.mono (by decide)) (fun h => nomatch h) t.d__law_pick.m t.d__law_pick.k t.d__law_pick.b (takes_of rfl rfl rfl rfl) (ma_cons (me_var 0) (ma_cons (me_var 5) (ma_nil))))) (mss_cons (ms_set 7 sc__law_mk_exchanges_right.nd (me_callR ["address", "code"] t.d_exchanged (ok_exchanged t) (hr.mono (by decide)) (fun h => nomatch h) (fun _ _ _ _ _ ws hl => match ws, hl with | [_, _], _ => rfl) (takes_of rfl rfl rfl rfl) (mk_cons (me_var 6) (mk_cons (me_var 2) (mk_nil))))) (mss_cons (ms_if (mt_bool (mw_or (mt_cmp (op_neM (u64 hr)) mo_ne (me_fnB (call_show (gA rfl) hr) mf_repr t.n_repr (by decide +kernel) (ma_cons (me_var 7) (ma_nil))) (me_fnB (call_show (gA rfl) hr) mf_repr t.n_repr (by decide +kernel) (ma_cons (me_call (ok__law_mk_swapped t) (hr.mono (by decide)) (fun h => nomatch h) t.d__law_mk_swapped.m t.d__law_mk_swapped.k t.d__law_mk_swapped.b (takes_of rfl rfl rfl rfl) (ma_cons (me_var 2) (ma_cons (me_var 6) (ma_nil)))) (ma_nil)))) (mw_or1 (mt_cmp (op_neM (u64 hr)) mo_ne (me_call (ok_exchanged t) (hr.mono (by decide)) (fun h => nomatch h) t.d_exchanged.m t.d_exchanged.k t.d_exchanged.b (takes_of rfl rfl rfl rfl) (ma_cons (me_var 7) (ma_cons (me_var 6) (ma_nil)))) (me_var 2))))) (mss_one (ms_ret (me_bl))) (mss_nil)) (mss_one (ms_set 2 sc__law_mk_exchanges_right.nd (me_var 7))))))))) (mss_cons (ms_if (mt_bool (mw_or (mt_not (mt_val (me_call (ok__law_mk_lists_right t) (hr.mono (by decide)) gA t.d__law_mk_lists_right.m t.d__law_mk_lists_right.k t.d__law_mk_lists_right.b (takes_of rfl rfl rfl rfl) (ma_cons (me_var 2) (ma_nil))))) (mw_or (mt_cmp (op_neM (u64 hr)) mo_ne (me_call (ok_stretches t) (hr.mono (by decide)) (fun h => nomatch h) t.d_stretches.m t.d_stretches.k t.d_stretches.b (takes_of rfl rfl rfl rfl) (ma_cons (me_var 2) (ma_nil))) (me_call (ok_stretches t) (hr.mono (by decide)) (fun h => nomatch h) t.d_stretches.m t.d_stretches.k t.d_stretches.b (takes_of rfl rfl rfl rfl) (ma_cons (me_var 1) (ma_nil)))) (mw_or1 (mt_cmp (op_neM (u64 hr)) mo_ne (me_ix (me_var 2) (me_int)) (me_ix (me_var 1) (me_int))))))) (mss_one (ms_ret (me_bl))) (mss_nil)) (mss_cons (ms_for (passes_of rfl) rfl (mi_rg1 t.n_range (me_fnB call_lenM mf_len t.n_len (by decide +kernel) (ma_cons (me_ix (me_var 1) (me_int)) (ma_nil)))) (pg_name (i := 4) sc__law_mk_exchanges_right.nd rfl (by first | exact Or.inl rfl | exact Or.inr rfl)) (gok_nm 4) (mss_one (ms_if (mt_cmp (op_neM (u64 hr)) mo_ne (me_call (ok__law_mk_own_told t) (hr.mono (by decide)) (fun h => nomatch h) t.d__law_mk_own_told.m t.d__law_mk_own_told.k t.d__law_mk_own_told.b (takes_of rfl rfl rfl rfl) (ma_cons (me_var 2) (ma_cons (me_var 4) (ma_nil)))) (me_call (ok__law_mk_own_told t) (hr.mono (by decide)) (fun h => nomatch h) t.d__law_mk_own_told.m t.d__law_mk_own_told.k t.d__law_mk_own_told.b (takes_of rfl rfl rfl rfl) (ma_cons (me_var 1) (ma_cons (me_var 4) (ma_nil))))) (mss_one (ms_ret (me_bl))) (mss_nil)))) (mss_cons (ms_for (passes_of rfl) rfl (mi_rg1 t.n_range (me_int)) (pg_name (i := 3) sc__law_mk_exchanges_right.nd rfl (by first | exact Or.inl rfl | exact Or.inr rfl)) (gok_nm 3) (mss_cons (ms_set 6 sc__law_mk_exchanges_right.nd (me_call (ok__law_draw t) (hr.mono (by decide)) (fun h => nomatch h) t.d__law_draw.m t.d__law_draw.k t.d__law_draw.b (takes_of rfl rfl rfl rfl) (ma_cons (me_var 0) (ma_cons (me_fnB call_lenM mf_len t.n_len (by decide +kernel) (ma_cons (me_ix (me_var 1) (me_int)) (ma_nil))) (ma_nil))))) (mss_cons (ms_par 8 9 rfl sc__law_mk_exchanges_right.nd (ma_cons (me_ix (me_ix (me_var 1) (me_int)) (me_var 6)) (ma_cons (me_callR ["address", "other", "code"] t.d_moved_address (ok_moved_address t) (hr.mono (by decide)) (fun h => nomatch h) (fun _ _ _ _ _ ws hl => match ws, hl with | [_, _, _], _ => rfl) (takes_of rfl rfl rfl rfl) (mk_cons (me_var 6) (mk_cons (me_var 2) (mk_cons (me_var 1) (mk_nil))))) (ma_nil)))) (mss_cons (ms_if (mt_bool (mw_or (mt_cmp (op_neM (u64 hr)) mo_ne (me_ix (me_ix (me_var 2) (me_int)) (me_var 9)) (me_var 8)) (mw_or1 (mt_bool (mw_and (mt_val (me_isi .str t.n_isinstance t.n_str (me_ix (me_var 8) (me_int)))) (mw_and1 (mt_cmp (op_neM (u64 hr)) mo_ne (me_var 9) (me_var 6)))))))) (mss_one (ms_ret (me_bl))) (mss_nil)) (mss_one (ms_if (mt_val (me_isi .int t.n_isinstance t.n_int (me_ix (me_var 8) (me_int)))) (mss_cons (ms_par 10 11 rfl sc__law_mk_exchanges_right.nd (ma_cons (me_call (ok_instructions t) (hr.mono (by decide)) (fun h => nomatch h) t.d_instructions.m t.d_instructions.k t.d_instructions.b (takes_of rfl rfl rfl rfl) (ma_cons (me_var 2) (ma_cons (me_ix (me_var 8) (me_int)) (ma_nil)))) (ma_cons (me_call (ok_instructions t) (hr.mono (by decide)) (fun h => nomatch h) t.d_instructions.m t.d_instructions.k t.d_instructions.b (takes_of rfl rfl rfl rfl) (ma_cons (me_var 1) (ma_cons (me_ix (me_var 8) (me_int)) (ma_nil)))) (ma_nil)))) (mss_one (ms_if (mt_cmp (op_neM (u64 hr)) mo_ne (me_meth PySem.F.slot_list_index PySem.F.type_list_index (mt_indexD (u65 hr)) met_index (me_var 10) (ma_cons (me_tup (ma_cons (me_var 9) (ma_cons (me_var 8) (ma_nil)))) (ma_nil))) (me_meth PySem.F.slot_list_index PySem.F.type_list_index (mt_indexD (u65 hr)) met_index (me_var 11) (ma_cons (me_tup (ma_cons (me_var 6) (ma_cons (me_var 8) (ma_nil)))) (ma_nil)))) (mss_one (ms_ret (me_bl))) (mss_nil)))) (mss_nil))))))) (mss_one (ms_ret (me_bl)))))))
theorem ex__law_mk_refused_right : ∃ f : Ads → MSp, f = fun q => mDef 4 (mSeq (mFor (miSeq (mCall (sp__law_mk_no_schedules q) [mVar 0, mVar 1])) (.nm 2) (mSeq (mIfS (mNot (mVal (mIsE q.NotSchedule (mCaught q.ok (mCall (sp_moved_address q) [mVar 1, mVar 2, mC .non]))))) (mRet (mC (.bl false))) (mNext)) (mIfS (mNot (mVal (mIsE q.NotSchedule (mCaught q.ok (mCall (sp_moved_address q) [mVar 1, mVar 2, mC (.int 0)]))))) (mRet (mC (.bl false))) (mNext)))) (mSeq (mAsg (mCall (sp__law_pick q) [mVar 0, mLst [mC .non, mC (.int 5), mSl (mVar 1) none (some (mC (.int 3))), mFn fList [mVar 1]]]) (.nm 3)) (mRet (mIsE q.BadCode (mCaught q.ok (mCall (sp_moved_address q) [mVar 3, mC .non, mC .non])))))) := ⟨_, rfl⟩
noncomputable def sp__law_mk_refused_right (q : Ads) : MSp := ex__law_mk_refused_right.choose q
theorem un__law_mk_refused_right (q : Ads) : sp__law_mk_refused_right q = mDef 4 (mSeq (mFor (miSeq (mCall (sp__law_mk_no_schedules q) [mVar 0, mVar 1])) (.nm 2) (mSeq (mIfS (mNot (mVal (mIsE q.NotSchedule (mCaught q.ok (mCall (sp_moved_address q) [mVar 1, mVar 2, mC .non]))))) (mRet (mC (.bl false))) (mNext)) (mIfS (mNot (mVal (mIsE q.NotSchedule (mCaught q.ok (mCall (sp_moved_address q) [mVar 1, mVar 2, mC (.int 0)]))))) (mRet (mC (.bl false))) (mNext)))) (mSeq (mAsg (mCall (sp__law_pick q) [mVar 0, mLst [mC .non, mC (.int 5), mSl (mVar 1) none (some (mC (.int 3))), mFn fList [mVar 1]]]) (.nm 3)) (mRet (mIsE q.BadCode (mCaught q.ok (mCall (sp_moved_address q) [mVar 3, mC .non, mC .non])))))) := congrFun ex__law_mk_refused_right.choose_spec q
abbrev N__law_mk_refused_right : List Str := ["_law_state", "_law_code", "_law_value", "_law_odd"]
theorem sc__law_mk_refused_right : FnScope N__law_mk_refused_right ["_law_state", "_law_code"] (defScope (top 74)) := ⟨rfl, rfl, rfl, by decide +kernel, rfl, by decide +kernel, by decide +kernel⟩
theorem ok__law_mk_refused_right (t : Txt K mg base q) : FnG P w K mg base (tT q) false 13 t.d__law_mk_refused_right.f t.d__law_mk_refused_right.fd ["_law_state", "_law_code"] 2 (sp__law_mk_refused_right q) := by
  rw [un__law_mk_refused_right]
  exact t.d__law_mk_refused_right.ok sc__law_mk_refused_right rfl fun A outer s H E hr gA =>
    mss_cons (ms_for (passes_of rfl) rfl (mi_seq (me_call (ok__law_mk_no_schedules t) (hr.mono (by decide)) (fun h => nomatch h) t.d__law_mk_no_schedules.m t.d__law_mk_no_schedules.k t.d__law_mk_no_schedules.b (takes_of rfl rfl rfl rfl) (ma_cons (me_var 0) (ma_cons (me_var 1) (ma_nil))))) (pg_name (i := 2) sc__law_mk_refused_right.nd rfl (by first | exact Or.inl rfl | exact Or.inr rfl)) (gok_nm 2) (mss_cons (ms_if (mt_not (mt_val (me_err t.e_NotSchedule t.n_isinstance (me_caughtD (L := LamX.lamS_by (sc := defScope (top 74)) (by decide +kernel)) (k := 10) (i := 2) (j := 1) t.d__law_caught rfl sc__law_caught rfl (.inl rfl) rfl rfl (by decide) (by decide) rfl rfl rfl t.e_HueError.m (by decide) (fun _ => rfl) (by decide) (by decide) (by decide) (by decide) (by decide) (by decide) (by decide) t.oks t.tb__law_mk_refused_right t.c__law_mk_refused_right (mT__law_mk_refused_right q) (uT__law_mk_refused_right t) (hr.mono (by decide)) (fun A outer s H E f c' hr' => me_call (ok_moved_address t) (hr'.mono (by decide)) (fun h => nomatch h) t.d_moved_address.m t.d_moved_address.k t.d_moved_address.b (takes_of rfl rfl rfl rfl) (ma_cons (me_var 1) (ma_cons (me_var 2) (ma_cons (me_non) (ma_nil))))))))) (mss_one (ms_ret (me_bl))) (mss_nil)) (mss_one (ms_if (mt_not (mt_val (me_err t.e_NotSchedule t.n_isinstance (me_caughtD (L := LamX.lamS_by (sc := defScope (top 74)) (by decide +kernel)) (k := 10) (i := 2) (j := 1) t.d__law_caught rfl sc__law_caught rfl (.inl rfl) rfl rfl (by decide) (by decide) rfl rfl rfl t.e_HueError.m (by decide) (fun _ => rfl) (by decide) (by decide) (by decide) (by decide) (by decide) (by decide) (by decide) t.oks t.tb__law_mk_refused_right t.c__law_mk_refused_right (mT__law_mk_refused_right q) (uT__law_mk_refused_right t) (hr.mono (by decide)) (fun A outer s H E f c' hr' => me_call (ok_moved_address t) (hr'.mono (by decide)) (fun h => nomatch h) t.d_moved_address.m t.d_moved_address.k t.d_moved_address.b (takes_of rfl rfl rfl rfl) (ma_cons (me_var 1) (ma_cons (me_var 2) (ma_cons (me_int) (ma_nil))))))))) (mss_one (ms_ret (me_bl))) (mss_nil))))) (mss_cons (ms_set 3 sc__law_mk_refused_right.nd (me_call (ok__law_pick t) (hr.mono (by decide)) (fun h => nomatch h) t.d__law_pick.m t.d__law_pick.k t.d__law_pick.b (takes_of rfl rfl rfl rfl) (ma_cons (me_var 0) (ma_cons (me_lst (ma_cons (me_non) (ma_cons (me_int) (ma_cons (me_slice (me_var 1) mo_none (mo_some (me_int))) (ma_cons (me_fnT call_list_of mf_list t.n_list (by decide +kernel) (ma_cons (me_var 1) (ma_nil))) (ma_nil)))))) (ma_nil))))) (mss_one (ms_ret (me_err t.e_BadCode t.n_isinstance (me_caughtD (L := LamX.lamS_by (sc := defScope (top 74)) (by decide +kernel)) (k := 10) (i := 2) (j := 1) t.d__law_caught rfl sc__law_caught rfl (.inl rfl) rfl rfl (by decide) (by decide) rfl rfl rfl t.e_HueError.m (by decide) (fun _ => rfl) (by decide) (by decide) (by decide) (by decide) (by decide) (by decide) (by decide) t.oks t.tb__law_mk_refused_right t.c__law_mk_refused_right (mT__law_mk_refused_right q) (uT__law_mk_refused_right t) (hr.mono (by decide)) (fun A outer s H E f c' hr' => me_call (ok_moved_address t) (hr'.mono (by decide)) (fun h => nomatch h) t.d_moved_address.m t.d_moved_address.k t.d_moved_address.b (takes_of rfl rfl rfl rfl) (ma_cons (me_var 3) (ma_cons (me_non) (ma_cons (me_non) (ma_nil))))))))))
theorem ex_law : ∃ f : Ads → MSp, f = fun q => mDef 8 (mSeq (mAsg (mCall (sp__law_begun q) [mVar 0]) (.nm 1)) (mSeq (mFor (miRg1 (mC (.int 3))) (.nm 2) (mSeq (mAsg (mCall (sp__law_mk_code q) [mVar 1]) (.nm 3)) (mSeq (mIfS (mOr (mNot (mVal (mCall (sp__law_mk_lists_right q) [mVar 3]))) (mNot (mVal (mCall (sp__law_mk_exchanges_right q) [mVar 1, mVar 3])))) (mRet (mC (.bl false))) (mNext)) (mSeq (mAsg (mLc (miRg2 (mNeg (mC (.int 1))) (mOp fAdd (mFn fLen [mOp fIx (mVar 3) (mC (.int 2))]) (mC (.int 1)))) (.nm 5) (mVal (mOp fNotIn (mVar 5) (mCall (sp__law_mk_swaps q) [mOp fIx (mVar 3) (mC (.int 2))]))) (mVar 5) [5]) (.nm 4)) (mSeq (mFor (miSeq (mLst [mCall (sp__law_pick q) [mVar 1, mVar 4], mC .non, mC (.str "0"), mOp fPow (mC (.int 10)) (mC (.int 9))])) (.nm 5) (mIfS (mNot (mVal (mIsE q.BadAddress (mCaught q.ok (mCall (sp_exchanged q) [mVar 3, mVar 5]))))) (mRet (mC (.bl false))) (mNext))) (mSeq (mFor (miSeq (mLst [mNeg (mC (.int 1)), mFn fLen [mOp fIx (mVar 3) (mC (.int 2))], mC .non, mC (.bl true)])) (.nm 5) (mIfS (mNot (mVal (mIsE q.BadAddress (mCaught q.ok (mCall (sp_moved_address q) [mVar 3, mVar 3, mVar 5]))))) (mRet (mC (.bl false))) (mNext))) (mSeq (mIfS (mNot (mVal (mCall (sp__law_mk_refused_right q) [mVar 1, mVar 3]))) (mRet (mC (.bl false))) (mNext)) (mSeq (mAsg (mCall (sp__law_pick q) [mVar 1, mLst [mC .non, mC (.int 5), mSl (mVar 3) none (some (mC (.int 3))), mFn fList [mVar 3]]]) (.nm 6)) (mFor (miSeq (mLst [mCaught q.ok (mCall (sp_labels_of q) [mVar 6]), mCaught q.ok (mCall (sp_stretches q) [mVar 6]), mCaught q.ok (mCall (sp_exchangeable q) [mVar 6]), mCaught q.ok (mCall (sp_exchanged q) [mVar 6, mC .non])])) (.nm 7) (mIfS (mNot (mVal (mIsE q.BadCode (mVar 7)))) (mRet (mC (.bl false))) (mNext))))))))))) (mRet (mC (.bl true))))) := ⟨_, rfl⟩
noncomputable def sp_law (q : Ads) : MSp := ex_law.choose q
theorem un_law (q : Ads) : sp_law q = mDef 8 (mSeq (mAsg (mCall (sp__law_begun q) [mVar 0]) (.nm 1)) (mSeq (mFor (miRg1 (mC (.int 3))) (.nm 2) (mSeq (mAsg (mCall (sp__law_mk_code q) [mVar 1]) (.nm 3)) (mSeq (mIfS (mOr (mNot (mVal (mCall (sp__law_mk_lists_right q) [mVar 3]))) (mNot (mVal (mCall (sp__law_mk_exchanges_right q) [mVar 1, mVar 3])))) (mRet (mC (.bl false))) (mNext)) (mSeq (mAsg (mLc (miRg2 (mNeg (mC (.int 1))) (mOp fAdd (mFn fLen [mOp fIx (mVar 3) (mC (.int 2))]) (mC (.int 1)))) (.nm 5) (mVal (mOp fNotIn (mVar 5) (mCall (sp__law_mk_swaps q) [mOp fIx (mVar 3) (mC (.int 2))]))) (mVar 5) [5]) (.nm 4)) (mSeq (mFor (miSeq (mLst [mCall (sp__law_pick q) [mVar 1, mVar 4], mC .non, mC (.str "0"), mOp fPow (mC (.int 10)) (mC (.int 9))])) (.nm 5) (mIfS (mNot (mVal (mIsE q.BadAddress (mCaught q.ok (mCall (sp_exchanged q) [mVar 3, mVar 5]))))) (mRet (mC (.bl false))) (mNext))) (mSeq (mFor (miSeq (mLst [mNeg (mC (.int 1)), mFn fLen [mOp fIx (mVar 3) (mC (.int 2))], mC .non, mC (.bl true)])) (.nm 5) (mIfS (mNot (mVal (mIsE q.BadAddress (mCaught q.ok (mCall (sp_moved_address q) [mVar 3, mVar 3, mVar 5]))))) (mRet (mC (.bl false))) (mNext))) (mSeq (mIfS (mNot (mVal (mCall (sp__law_mk_refused_right q) [mVar 1, mVar 3]))) (mRet (mC (.bl false))) (mNext)) (mSeq (mAsg (mCall (sp__law_pick q) [mVar 1, mLst [mC .non, mC (.int 5), mSl (mVar 3) none (some (mC (.int 3))), mFn fList [mVar 3]]]) (.nm 6)) (mFor (miSeq (mLst [mCaught q.ok (mCall (sp_labels_of q) [mVar 6]), mCaught q.ok (mCall (sp_stretches q) [mVar 6]), mCaught q.ok (mCall (sp_exchangeable q) [mVar 6]), mCaught q.ok (mCall (sp_exchanged q) [mVar 6, mC .non])])) (.nm 7) (mIfS (mNot (mVal (mIsE q.BadCode (mVar 7)))) (mRet (mC (.bl false))) (mNext))))))))))) (mRet (mC (.bl true))))) := congrFun ex_law.choose_spec q
abbrev N_law : List Str := ["_law_script", "_law_state", "_law_turn", "_law_code", "_law_far", "_law_at", "_law_odd", "_law_caught_here"]
theorem sc_law : FnScope N_law ["_law_script"] (defScope (top 75)) := ⟨rfl, rfl, rfl, by decide +kernel, rfl, by decide +kernel, by decide +kernel⟩
theorem ok_law (t : Txt K mg base q) : FnG P w K mg base (tT q) true 14 t.d_law.f t.d_law.fd ["_law_script"] 1 (sp_law q) := by
  rw [un_law]
  exact t.d_law.ok sc_law rfl fun A outer s H E hr gA =>
    mss_cons (ms_set 1 sc_law.nd (me_call (ok__law_begun t) (hr.mono (by decide)) (fun h => nomatch h) t.d__law_begun.m t.d__law_begun.k t.d__law_begun.b (takes_of rfl rfl rfl rfl) (ma_cons (me_var 0) (ma_nil)))) (mss_cons (ms_for (passes_of rfl) rfl (mi_rg1 t.n_range (me_int)) (pg_name (i := 2) sc_law.nd rfl (by first | exact Or.inl rfl | exact Or.inr rfl)) (gok_nm 2) (mss_cons (ms_set 3 sc_law.nd (me_call (ok__law_mk_code t) (hr.mono (by decide)) (fun h => nomatch h) t.d__law_mk_code.m t.d__law_mk_code.k t.d__law_mk_code.b (takes_of rfl rfl rfl rfl) (ma_cons (me_var 1) (ma_nil)))) (mss_cons (ms_if (mt_bool (mw_or (mt_not (mt_val (me_call (ok__law_mk_lists_right t) (hr.mono (by decide)) gA t.d__law_mk_lists_right.m t.d__law_mk_lists_right.k t.d__law_mk_lists_right.b (takes_of rfl rfl rfl rfl) (ma_cons (me_var 3) (ma_nil))))) (mw_or1 (mt_not (mt_val (me_call (ok__law_mk_exchanges_right t) (hr.mono (by decide)) gA t.d__law_mk_exchanges_right.m t.d__law_mk_exchanges_right.k t.d__law_mk_exchanges_right.b (takes_of rfl rfl rfl rfl) (ma_cons (me_var 1) (ma_cons (me_var 3) (ma_nil))))))))) (mss_one (ms_ret (me_bl))) (mss_nil)) (mss_cons (ms_setLcI (i := 4) (own := [("_law_at", 5)]) rfl sc_law.nd (mi_rg2 t.n_range (me_neg (me_int)) (me_op op_addM mo_add (me_fnB call_lenM mf_len t.n_len (by decide +kernel) (ma_cons (me_ix (me_var 3) (me_int)) (ma_nil))) (me_int))) (gow_nm 5) (blkOk_by (N := N_law) (sc := defScope (top 75)) (by decide +kernel)) (fun _ _ _ _ _ => pg_name (i := 5) sc_law.nd rfl (by first | exact Or.inl rfl | exact Or.inr rfl)) (fun _ _ _ _ _ => mt_cmp (op_notInM (u64 hr)) mo_notIn (me_var 5) (me_call (ok__law_mk_swaps t) (hr.mono (by decide)) (fun h => nomatch h) t.d__law_mk_swaps.m t.d__law_mk_swaps.k t.d__law_mk_swaps.b (LamX.takes0) (ma_cons (me_ix (me_var 3) (me_int)) (ma_nil)))) (fun _ _ _ _ _ => me_var 5)) (mss_cons (ms_for (passes_of rfl) rfl (mi_seq (me_lst (ma_cons (me_call (ok__law_pick t) (hr.mono (by decide)) (fun h => nomatch h) t.d__law_pick.m t.d__law_pick.k t.d__law_pick.b (takes_of rfl rfl rfl rfl) (ma_cons (me_var 1) (ma_cons (me_var 4) (ma_nil)))) (ma_cons (me_non) (ma_cons (me_str) (ma_cons (me_op op_pow mo_pow (me_int) (me_int)) (ma_nil))))))) (pg_name (i := 5) sc_law.nd rfl (by first | exact Or.inl rfl | exact Or.inr rfl)) (gok_nm 5) (mss_one (ms_if (mt_not (mt_val (me_err t.e_BadAddress t.n_isinstance (me_caughtD (L := LamX.lamS_by (sc := defScope (top 75)) (by decide +kernel)) (k := 8) (i := 2) (j := 1) t.d__law_caught rfl sc__law_caught rfl (.inl rfl) rfl rfl (by decide) (by decide) rfl rfl rfl t.e_HueError.m (by decide) (fun _ => rfl) (by decide) (by decide) (by decide) (by decide) (by decide) (by decide) (by decide) t.oks t.tb_law t.c_law (mT_law q) (uT_law t) (hr.mono (by decide)) (fun A outer s H E f c' hr' => me_call (ok_exchanged t) (hr'.mono (by decide)) (fun h => nomatch h) t.d_exchanged.m t.d_exchanged.k t.d_exchanged.b (takes_of rfl rfl rfl rfl) (ma_cons (me_var 3) (ma_cons (me_var 5) (ma_nil)))))))) (mss_one (ms_ret (me_bl))) (mss_nil)))) (mss_cons (ms_for (passes_of rfl) rfl (mi_seq (me_lst (ma_cons (me_neg (me_int)) (ma_cons (me_fnB call_lenM mf_len t.n_len (by decide +kernel) (ma_cons (me_ix (me_var 3) (me_int)) (ma_nil))) (ma_cons (me_non) (ma_cons (me_bl) (ma_nil))))))) (pg_name (i := 5) sc_law.nd rfl (by first | exact Or.inl rfl | exact Or.inr rfl)) (gok_nm 5) (mss_one (ms_if (mt_not (mt_val (me_err t.e_BadAddress t.n_isinstance (me_caughtD (L := LamX.lamS_by (sc := defScope (top 75)) (by decide +kernel)) (k := 10) (i := 2) (j := 1) t.d__law_caught rfl sc__law_caught rfl (.inl rfl) rfl rfl (by decide) (by decide) rfl rfl rfl t.e_HueError.m (by decide) (fun _ => rfl) (by decide) (by decide) (by decide) (by decide) (by decide) (by decide) (by decide) t.oks t.tb_law t.c_law (mT_law q) (uT_law t) (hr.mono (by decide)) (fun A outer s H E f c' hr' => me_call (ok_moved_address t) (hr'.mono (by decide)) (fun h => nomatch h) t.d_moved_address.m t.d_moved_address.k t.d_moved_address.b (takes_of rfl rfl rfl rfl) (ma_cons (me_var 3) (ma_cons (me_var 3) (ma_cons (me_var 5) (ma_nil))))))))) (mss_one (ms_ret (me_bl))) (mss_nil)))) (mss_cons (ms_if (mt_not (mt_val (me_call (ok__law_mk_refused_right t) (hr.mono (by decide)) (fun h => nomatch h) t.d__law_mk_refused_right.m t.d__law_mk_refused_right.k t.d__law_mk_refused_right.b (takes_of rfl rfl rfl rfl) (ma_cons (me_var 1) (ma_cons (me_var 3) (ma_nil)))))) (mss_one (ms_ret (me_bl))) (mss_nil)) (mss_cons (ms_set 6 sc_law.nd (me_call (ok__law_pick t) (hr.mono (by decide)) (fun h => nomatch h) t.d__law_pick.m t.d__law_pick.k t.d__law_pick.b (takes_of rfl rfl rfl rfl) (ma_cons (me_var 1) (ma_cons (me_lst (ma_cons (me_non) (ma_cons (me_int) (ma_cons (me_slice (me_var 3) mo_none (mo_some (me_int))) (ma_cons (me_fnT call_list_of mf_list t.n_list (by decide +kernel) (ma_cons (me_var 3) (ma_nil))) (ma_nil)))))) (ma_nil))))) (mss_one (ms_for (passes_of rfl) rfl (mi_seq (me_lst (ma_cons (me_caughtD (L := LamX.lamS_by (sc := defScope (top 75)) (by decide +kernel)) (k := 8) (i := 2) (j := 1) t.d__law_caught rfl sc__law_caught rfl (.inl rfl) rfl rfl (by decide) (by decide) rfl rfl rfl t.e_HueError.m (by decide) (fun _ => rfl) (by decide) (by decide) (by decide) (by decide) (by decide) (by decide) (by decide) t.oks t.tb_law t.c_law (mT_law q) (uT_law t) (hr.mono (by decide)) (fun A outer s H E f c' hr' => me_call (ok_labels_of t) (hr'.mono (by decide)) (fun h => nomatch h) t.d_labels_of.m t.d_labels_of.k t.d_labels_of.b (takes_of rfl rfl rfl rfl) (ma_cons (me_var 6) (ma_nil)))) (ma_cons (me_caughtD (L := LamX.lamS_by (sc := defScope (top 75)) (by decide +kernel)) (k := 8) (i := 2) (j := 1) t.d__law_caught rfl sc__law_caught rfl (.inl rfl) rfl rfl (by decide) (by decide) rfl rfl rfl t.e_HueError.m (by decide) (fun _ => rfl) (by decide) (by decide) (by decide) (by decide) (by decide) (by decide) (by decide) t.oks t.tb_law t.c_law (mT_law q) (uT_law t) (hr.mono (by decide)) (fun A outer s H E f c' hr' => me_call (ok_stretches t) (hr'.mono (by decide)) (fun h => nomatch h) t.d_stretches.m t.d_stretches.k t.d_stretches.b (takes_of rfl rfl rfl rfl) (ma_cons (me_var 6) (ma_nil)))) (ma_cons (me_caughtD (L := LamX.lamS_by (sc := defScope (top 75)) (by decide +kernel)) (k := 8) (i := 2) (j := 1) t.d__law_caught rfl sc__law_caught rfl (.inl rfl) rfl rfl (by decide) (by decide) rfl rfl rfl t.e_HueError.m (by decide) (fun _ => rfl) (by decide) (by decide) (by decide) (by decide) (by decide) (by decide) (by decide) t.oks t.tb_law t.c_law (mT_law q) (uT_law t) (hr.mono (by decide)) (fun A outer s H E f c' hr' => me_call (ok_exchangeable t) (hr'.mono (by decide)) (fun h => nomatch h) t.d_exchangeable.m t.d_exchangeable.k t.d_exchangeable.b (takes_of rfl rfl rfl rfl) (ma_cons (me_var 6) (ma_nil)))) (ma_cons (me_caughtD (L := LamX.lamS_by (sc := defScope (top 75)) (by decide +kernel)) (k := 8) (i := 2) (j := 1) t.d__law_caught rfl sc__law_caught rfl (.inl rfl) rfl rfl (by decide) (by decide) rfl rfl rfl t.e_HueError.m (by decide) (fun _ => rfl) (by decide) (by decide) (by decide) (by decide) (by decide) (by decide) (by decide) t.oks t.tb_law t.c_law (mT_law q) (uT_law t) (hr.mono (by decide)) (fun A outer s H E f c' hr' => me_call (ok_exchanged t) (hr'.mono (by decide)) (fun h => nomatch h) t.d_exchanged.m t.d_exchanged.k t.d_exchanged.b (takes_of rfl rfl rfl rfl) (ma_cons (me_var 6) (ma_cons (me_non) (ma_nil))))) (ma_nil))))))) (pg_name (i := 7) sc_law.nd rfl (by first | exact Or.inl rfl | exact Or.inr rfl)) (gok_nm 7) (mss_one (ms_if (mt_not (mt_val (me_err t.e_BadCode t.n_isinstance (me_var 7)))) (mss_one (ms_ret (me_bl))) (mss_nil))))))))))))) (mss_one (ms_ret (me_bl))))
end
end K75


set_option Elab.async false
set_option linter.all false
set_option maxRecDepth 100000
set_option maxHeartbeats 8000000
namespace K75
open PySem PySem.Spec PyProof.Rows L2 ML
/-! # the plain law: codes -/
theorem iteN {c : Prop} [i : Decidable c] {A B : Prop} (h : ¬ c) (z : B) : ite c A B := by rw [if_neg h]; exact z
theorem iteY {c : Prop} [i : Decidable c] {A B : Prop} (h : c) (z : A) : ite c A B := by rw [if_pos h]; exact z
def isI : W → Bool
  | .int _ => true
  | _ => false
def fromB (v : W) (lo hi : Int) : Bool := match v with
  | .int i => decide (lo ≤ i) && decide (i ≤ hi)
  | _ => false
section
variable {q : Ads} {RX : MX} {M : Mh} {R : MK}
theorem L_is_whole {v : W} (hv : (tyW M v).isSome = true) (k : R (.bl (isI v)) M) : sp_is_whole q RX [v] M R := by
  rw [un_is_whole]
  simp only [mDef, mSeq, mIfS, mVal, mNot, mAnd, mOr, mAndV, mOrV, mNotV, mIf, mOp, mChain, mVar, mC, mTup, mLst, mArgs, mCall, mFn, mDGet, mAsg, mRet, mNext, mRaise, mDrop, mIsi, bindT, setAll, startM, List.map_cons, List.map_nil, List.length_cons, List.length_nil, List.replicate, List.cons_append, List.nil_append, List.getElem?_cons_zero, List.getElem?_cons_succ, List.set_cons_succ, List.set_cons_zero, Nat.zero_add, Nat.reduceAdd, Nat.reduceSub, fII, fIIc, fLt, fLe, fGt, fGe, fSub, fMul, fDiv, fMod, fPow, fAdd, fLen, items, if_true]
  cases e : tyW M v with
  | none => rw [e] at hv; cases hv
  | some t =>
    have h : isI v = (isT t .int && !isT t .bl) := by
      cases v <;> simp only [tyW, reduceCtorEq, Option.some.injEq] at e <;> first | (subst e; rfl) | skip
      split at e <;> simp only [reduceCtorEq, Option.some.injEq] at e <;> (subst e; rfl)
    simp only
    rw [h] at k
    cases h1 : isT t .int with
    | true =>
      simp only [if_true]
      rw [h1, Bool.true_and] at k
      exact fg_of k
    | false =>
      rw [if_neg (by decide)]
      rw [h1, Bool.false_and] at k
      exact fg_of k
theorem L_is_from {v : W} {lo hi : Int} (hv : (tyW M v).isSome = true) (k : R (.bl (fromB v lo hi)) M) : sp_is_from q RX [v, .int lo, .int hi] M R := by
  rw [un_is_from]
  simp only [mDef, mSeq, mIfS, mVal, mNot, mAnd, mOr, mAndV, mOrV, mNotV, mIf, mOp, mChain, mVar, mC, mTup, mLst, mArgs, mCall, mFn, mDGet, mAsg, mRet, mNext, mRaise, mDrop, mIsi, bindT, setAll, startM, List.map_cons, List.map_nil, List.length_cons, List.length_nil, List.replicate, List.cons_append, List.nil_append, List.getElem?_cons_zero, List.getElem?_cons_succ, List.set_cons_succ, List.set_cons_zero, Nat.zero_add, Nat.reduceAdd, Nat.reduceSub, fII, fIIc, fLt, fLe, fGt, fGe, fSub, fMul, fDiv, fMod, fPow, fAdd, fLen, items, if_true]
  refine L_is_whole hv ?_
  cases v with
  | int i =>
    simp only [isI, if_true]
    have k : R (.bl (decide (lo ≤ i) && decide (i ≤ hi))) M := k
    by_cases h : lo ≤ i
    · rw [if_pos (decide_eq_true h)]
      rw [decide_eq_true h, Bool.true_and] at k
      exact fg_of k
    · rw [if_neg (by simpa using h)]
      rw [decide_eq_false h, Bool.false_and] at k
      exact fg_of k
  | _ =>
    simp only [isI]
    exact iteN (by decide) (fg_of k)
/-- plain, and not deep -/
def Ok (w : W) : Prop := pl w = true ∧ dpW w ≤ 60
theorem Ok.ty {w : W} (h : Ok w) : (tyW M w).isSome = true := by
  obtain ⟨h, _⟩ := h
  cases w <;> first | rfl | simp [pl] at h
theorem Ok.int {i : Int} : Ok (.int i) := ⟨rfl, Nat.zero_le _⟩
theorem L_are_registers {ws : List W} (hw : ∀ w ∈ ws, Ok w) (hl : ws.length ≤ 1000) (k : R (.bl (ws.all fun w => fromB w 0 7)) M) : sp_are_registers q RX [.tup ws] M R := by
  rw [un_are_registers]
  simp only [mDef, mSeq, mIfS, mVal, mNot, mAnd, mOr, mAndV, mOrV, mNotV, mIf, mOp, mChain, mVar, mC, mTup, mLst, mArgs, mCall, mFn, mDGet, mAsg, mRet, mNext, mRaise, mDrop, mIsi, bindT, setAll, startM, List.map_cons, List.map_nil, List.length_cons, List.length_nil, List.replicate, List.cons_append, List.nil_append, List.getElem?_cons_zero, List.getElem?_cons_succ, List.set_cons_succ, List.set_cons_zero, Nat.zero_add, Nat.reduceAdd, Nat.reduceSub, fII, fIIc, fLt, fLe, fGt, fGe, fSub, fMul, fDiv, fMod, fPow, fAdd, fLen, items, if_true, mLc, miSeq, wipeM]
  refine ⟨by rw [sizeLine_eq]; omega, lcL_map id (fun w => !fromB w 0 7) trivial _ _ (fun w h => ?_) ?_⟩
  · refine ⟨_, rfl, fun R hR => ?_, fun _ R hR => ?_⟩
    · simp only [mDef, mSeq, mIfS, mVal, mNot, mAnd, mOr, mAndV, mOrV, mNotV, mIf, mOp, mChain, mVar, mC, mTup, mLst, mArgs, mCall, mFn, mDGet, mAsg, mRet, mNext, mRaise, mDrop, mIsi, bindT, setAll, startM, List.map_cons, List.map_nil, List.length_cons, List.length_nil, List.replicate, List.cons_append, List.nil_append, List.getElem?_cons_zero, List.getElem?_cons_succ, List.set_cons_succ, List.set_cons_zero, Nat.zero_add, Nat.reduceAdd, Nat.reduceSub, fII, fIIc, fLt, fLe, fGt, fGe, fSub, fMul, fDiv, fMod, fPow, fAdd, fLen, items, if_true]
      refine L_is_from (hw w h).ty ?_
      exact hR
    · simp only [mDef, mSeq, mIfS, mVal, mNot, mAnd, mOr, mAndV, mOrV, mNotV, mIf, mOp, mChain, mVar, mC, mTup, mLst, mArgs, mCall, mFn, mDGet, mAsg, mRet, mNext, mRaise, mDrop, mIsi, bindT, setAll, startM, List.map_cons, List.map_nil, List.length_cons, List.length_nil, List.replicate, List.cons_append, List.nil_append, List.getElem?_cons_zero, List.getElem?_cons_succ, List.set_cons_succ, List.set_cons_zero, Nat.zero_add, Nat.reduceAdd, Nat.reduceSub, fII, fIIc, fLt, fLe, fGt, fGe, fSub, fMul, fDiv, fMod, fPow, fAdd, fLen, items, if_true]
      exact hR
  · rw [List.nil_append, List.map_id]
    intro p hp r hr
    have pr : p ≠ r := fun z => by subst z; rw [updM_same] at hr; cases hr
    have sub : ∀ w ∈ ws.filter (fun w => !fromB w 0 7), Ok w := fun w h => hw w (List.mem_filter.mp h).1
    refine fEq_lst (xs := ws.filter fun w => !fromB w 0 7) (ys := []) (by rw [updM_ne pr, updM_same]) updM_same (fun w h => (sub w h).1) (by simp) (fun w h => (sub w h).2) (by simp) fun c hc => ?_
    have e : c = ws.all fun w => fromB w 0 7 := by
      rw [Bool.eq_iff_iff, hc, List.filter_eq_nil_iff, List.all_eq_true]
      simp
    rw [e]
    exact ⟨M, (sub_new hp).trans (sub_new hr), k⟩
end
end K75


set_option Elab.async false
set_option linter.all false
set_option maxRecDepth 100000
set_option maxHeartbeats 8000000
namespace K75
open PySem PySem.Spec PyProof.Rows L2 ML
/-! # cells -/
inductive Two where
  | plus | minus | times | rest | less | same
  deriving DecidableEq
def Two.nm : Two → Str
  | .plus => "plus" | .minus => "minus" | .times => "times" | .rest => "rest" | .less => "less" | .same => "same"
inductive Bk where
  | get | put
  deriving DecidableEq
def Bk.nm : Bk → Str
  | .get => "get" | .put => "put"
inductive Th where
  | sho | tur | tak
  deriving DecidableEq
def Th.nm : Th → Str
  | .sho => "show" | .tur => "turn" | .tak => "take"
inductive On where
  | stop | mark
  deriving DecidableEq
def On.nm : On → Str
  | .stop => "stop" | .mark => "mark"
/-- what an instruction says behind its hue -/
inductive Ins where
  | set (b n : Int) | two (w : Two) (b c d : Int) | bnk (w : Bk) (b c s l : Int) | off (r : Int)
  deriving DecidableEq
inductive Cell where
  | ins (h : Int) (i : Ins)
  | thr (w : Th) (a k : Int) | goto (a : Int) | one (w : On)
  deriving DecidableEq
def Ins.ws : Ins → List W
  | .set b n => [.str "set", .int b, .int n]
  | .two w b c d => [.str w.nm, .int b, .int c, .int d]
  | .bnk w b c s l => [.str w.nm, .int b, .int c, .int s, .int l]
  | .off r => [.str "offer", .int r]
def Cell.w : Cell → W
  | .ins h i => .tup (.int h :: i.ws)
  | .thr w a k => .tup [.str w.nm, .int a, .int k]
  | .goto a => .tup [.str "goto", .int a]
  | .one w => .tup [.str w.nm]
def rg (i : Int) : Bool := decide (0 ≤ i) && decide (i ≤ 7)
def bt (lo i hi : Int) : Bool := decide (lo ≤ i) && decide (i ≤ hi)
def Ins.fit (size bank : Int) : Ins → Bool
  | .set b n => rg b && bt 0 n (size - 1)
  | .two _ b c d => rg b && (rg c && rg d)
  | .bnk _ b c s l => (rg b && rg c) && (bt 0 s bank && bt 1 l (bank - s))
  | .off r => rg r
def Cell.fit (hues size many bank : Int) : Cell → Bool
  | .ins h i => bt 0 h (hues - 1) && i.fit size bank
  | .thr w a k => bt 1 k hues && bt 0 a (match w with | .sho => 5 | .tur => many - 1 | .tak => 7)
  | .goto a => bt 0 a (many - 1)
  | .one _ => true
theorem at_nat {ws : List W} {n : Nat} {w : W} (h : ws[n]? = some w) : atI ws (n : Int) = some w := by
  have hl := (List.getElem?_eq_some_iff.mp h).1
  have e : ixN ws.length (n : Int) = some n := by
    unfold ixN
    rw [if_pos (by omega)]
    simp
    exact hl
  unfold atI
  rw [e]
  exact h
theorem at0 {a : W} {l : List W} : atI (a :: l) 0 = some a := at_nat (n := 0) rfl
theorem at1 {a b : W} {l : List W} : atI (a :: b :: l) 1 = some b := at_nat (n := 1) rfl
theorem at2 {a b c : W} {l : List W} : atI (a :: b :: c :: l) 2 = some c := at_nat (n := 2) rfl
theorem at3 {a b c d : W} {l : List W} : atI (a :: b :: c :: d :: l) 3 = some d := at_nat (n := 3) rfl
theorem at4 {a b c d e : W} {l : List W} : atI (a :: b :: c :: d :: e :: l) 4 = some e := at_nat (n := 4) rfl
theorem at5 {a b c d e f : W} {l : List W} : atI (a :: b :: c :: d :: e :: f :: l) 5 = some f := at_nat (n := 5) rfl
theorem cut43 {a b c d : W} : cutW [a, b, c, d] (some 2) (some 3) = [c] := rfl
theorem cut3n {a b c : W} : cutW [a, b, c] (some 2) none = [c] := rfl
theorem cut64 {a b c d e f : W} : cutW [a, b, c, d, e, f] (some 2) (some 4) = [c, d] := rfl
theorem cut5n {a b c d e : W} : cutW [a, b, c, d, e] (some 2) none = [c, d, e] := rfl
section
variable {q : Ads} {RX : MX} {M : Mh} {R : MK}
theorem ok_nil : ∀ w ∈ ([] : List W), Ok w := fun _ h => by cases h
theorem ok_cons {w : W} {ws : List W} (h : Ok w) (t : ∀ w ∈ ws, Ok w) : ∀ x ∈ w :: ws, Ok x := fun x hx => by
  rcases List.mem_cons.mp hx with e | e
  · rw [e]; exact h
  · exact t x e
theorem L_instruction {h size bank : Int} {i : Ins} (k : R (.bl (i.fit size bank)) M) : sp_instruction_fits q RX [(Cell.ins h i).w, .int h, .int size, .int bank] M R := by
  have hh : fromB (.int h) h h = true := by simp [fromB]
  rw [un_instruction_fits]
  cases i with
  | set b n =>
    simp only [mDef, mSeq, mIfS, mVal, mNot, mAnd, mOr, mAndV, mOrV, mNotV, mIf, mOp, mChain, mVar, mC, mTup, mLst, mArgs, mCall, mFn, mDGet, mAsg, mRet, mNext, mRaise, mDrop, mIsi, bindT, setAll, startM, List.map_cons, List.map_nil, List.length_cons, List.length_nil, List.replicate, List.cons_append, List.nil_append, List.getElem?_cons_zero, List.getElem?_cons_succ, List.set_cons_succ, List.set_cons_zero, Nat.zero_add, Nat.reduceAdd, Nat.reduceSub, fII, fIIc, fLt, fLe, fGt, fGe, fSub, fMul, fDiv, fMod, fPow, fAdd, fLen, items, if_true, Cell.w, Ins.ws, tyW, isT, fIx, at0, at1, at2, at3]
    refine iteN (by decide) (iteN (by decide) (L_is_from rfl ?_))
    rw [hh]
    refine iteN (by decide) (iteN (by decide) ?_)
    simp only [fEq, eqW]
    refine iteY (by decide) (iteY (by decide) ?_)
    simp only [mSl, mPart, fSl, cut43, mDef, mSeq, mIfS, mVal, mNot, mAnd, mOr, mAndV, mOrV, mNotV, mIf, mOp, mChain, mVar, mC, mTup, mLst, mArgs, mCall, mFn, mDGet, mAsg, mRet, mNext, mRaise, mDrop, mIsi, bindT, setAll, startM, List.map_cons, List.map_nil, List.length_cons, List.length_nil, List.replicate, List.cons_append, List.nil_append, List.getElem?_cons_zero, List.getElem?_cons_succ, List.set_cons_succ, List.set_cons_zero, Nat.zero_add, Nat.reduceAdd, Nat.reduceSub, fII, fIIc, fLt, fLe, fGt, fGe, fSub, fMul, fDiv, fMod, fPow, fAdd, fLen, items, if_true]
    refine L_are_registers (ok_cons Ok.int ok_nil) (by simp) ?_
    have e : ([W.int b].all fun w => fromB w 0 7) = rg b := by simp [fromB, rg]
    rw [e]
    have k : R (.bl (rg b && bt 0 n (size - 1))) M := k
    cases hb : rg b with
    | true =>
      rw [hb, Bool.true_and] at k
      refine iteY rfl (L_is_from rfl ?_)
      exact fg_of k
    | false =>
      rw [hb, Bool.false_and] at k
      exact iteN (by decide) (fg_of k)
  | two w b c d =>
    simp only [mDef, mSeq, mIfS, mVal, mNot, mAnd, mOr, mAndV, mOrV, mNotV, mIf, mOp, mChain, mVar, mC, mTup, mLst, mArgs, mCall, mFn, mDGet, mAsg, mRet, mNext, mRaise, mDrop, mIsi, bindT, setAll, startM, List.map_cons, List.map_nil, List.length_cons, List.length_nil, List.replicate, List.cons_append, List.nil_append, List.getElem?_cons_zero, List.getElem?_cons_succ, List.set_cons_succ, List.set_cons_zero, Nat.zero_add, Nat.reduceAdd, Nat.reduceSub, fII, fIIc, fLt, fLe, fGt, fGe, fSub, fMul, fDiv, fMod, fPow, fAdd, fLen, items, if_true, Cell.w, Ins.ws, tyW, isT, fIx, at0, at1, at2, at3]
    refine iteN (by decide) (iteN (by decide) (L_is_from rfl ?_))
    rw [hh]
    refine iteN (by decide) (iteN (by decide) ?_)
    simp only [fEq, eqW, fIn, inW, wTWOS, items, flatW, List.all_cons, List.all_nil, Bool.and_self, List.any_cons, List.any_nil, eqF, if_true]
    refine iteN (by cases w <;> decide) (iteN (by cases w <;> decide) (iteN (by cases w <;> decide) (iteY (by cases w <;> decide) (iteY (by decide) ?_))))
    simp only [mSl, mPart, fSl, cut5n, mDef, mSeq, mIfS, mVal, mNot, mAnd, mOr, mAndV, mOrV, mNotV, mIf, mOp, mChain, mVar, mC, mTup, mLst, mArgs, mCall, mFn, mDGet, mAsg, mRet, mNext, mRaise, mDrop, mIsi, bindT, setAll, startM, List.map_cons, List.map_nil, List.length_cons, List.length_nil, List.replicate, List.cons_append, List.nil_append, List.getElem?_cons_zero, List.getElem?_cons_succ, List.set_cons_succ, List.set_cons_zero, Nat.zero_add, Nat.reduceAdd, Nat.reduceSub, fII, fIIc, fLt, fLe, fGt, fGe, fSub, fMul, fDiv, fMod, fPow, fAdd, fLen, items, if_true]
    refine L_are_registers (ok_cons Ok.int (ok_cons Ok.int (ok_cons Ok.int ok_nil))) (by simp) ?_
    have e : ([W.int b, W.int c, W.int d].all fun w => fromB w 0 7) = (rg b && (rg c && rg d)) := by simp [fromB, rg]
    rw [e]
    exact fg_of k
  | bnk w b c s l =>
    simp only [mDef, mSeq, mIfS, mVal, mNot, mAnd, mOr, mAndV, mOrV, mNotV, mIf, mOp, mChain, mVar, mC, mTup, mLst, mArgs, mCall, mFn, mDGet, mAsg, mRet, mNext, mRaise, mDrop, mIsi, bindT, setAll, startM, List.map_cons, List.map_nil, List.length_cons, List.length_nil, List.replicate, List.cons_append, List.nil_append, List.getElem?_cons_zero, List.getElem?_cons_succ, List.set_cons_succ, List.set_cons_zero, Nat.zero_add, Nat.reduceAdd, Nat.reduceSub, fII, fIIc, fLt, fLe, fGt, fGe, fSub, fMul, fDiv, fMod, fPow, fAdd, fLen, items, if_true, Cell.w, Ins.ws, tyW, isT, fIx, at0, at1, at2, at3, at4, at5]
    refine iteN (by decide) (iteN (by decide) (L_is_from rfl ?_))
    rw [hh]
    refine iteN (by decide) (iteN (by decide) ?_)
    simp only [fEq, fNe, eqW, fIn, inW, items, flatW, List.all_cons, List.all_nil, Bool.and_self, List.any_cons, List.any_nil, eqF, if_true]
    refine iteN (by cases w <;> decide) (iteN (by cases w <;> decide) (iteY (by cases w <;> decide) (iteN (by decide) ?_)))
    simp only [mSl, mPart, fSl, cut64, mDef, mSeq, mIfS, mVal, mNot, mAnd, mOr, mAndV, mOrV, mNotV, mIf, mOp, mChain, mVar, mC, mTup, mLst, mArgs, mCall, mFn, mDGet, mAsg, mRet, mNext, mRaise, mDrop, mIsi, bindT, setAll, startM, List.map_cons, List.map_nil, List.length_cons, List.length_nil, List.replicate, List.cons_append, List.nil_append, List.getElem?_cons_zero, List.getElem?_cons_succ, List.set_cons_succ, List.set_cons_zero, Nat.zero_add, Nat.reduceAdd, Nat.reduceSub, fII, fIIc, fLt, fLe, fGt, fGe, fSub, fMul, fDiv, fMod, fPow, fAdd, fLen, items, if_true]
    refine L_are_registers (ok_cons Ok.int (ok_cons Ok.int ok_nil)) (by simp) ?_
    have e : ([W.int b, W.int c].all fun w => fromB w 0 7) = (rg b && rg c) := by simp [fromB, rg]
    rw [e]
    have k : R (.bl ((rg b && rg c) && (bt 0 s bank && bt 1 l (bank - s)))) M := k
    cases hb : (rg b && rg c) with
    | false =>
      rw [hb, Bool.false_and] at k
      exact iteY (by decide) (fg_of k)
    | true =>
      rw [hb, Bool.true_and] at k
      refine iteN (by decide) (L_is_from rfl ?_)
      have e2 : fromB (.int s) 0 bank = bt 0 s bank := rfl
      rw [e2]
      cases hs : bt 0 s bank with
      | false =>
        rw [hs, Bool.false_and] at k
        exact iteN (by decide) (fg_of k)
      | true =>
        rw [hs, Bool.true_and] at k
        refine iteY rfl (L_is_from rfl ?_)
        exact fg_of k
  | off r =>
    simp only [mDef, mSeq, mIfS, mVal, mNot, mAnd, mOr, mAndV, mOrV, mNotV, mIf, mOp, mChain, mVar, mC, mTup, mLst, mArgs, mCall, mFn, mDGet, mAsg, mRet, mNext, mRaise, mDrop, mIsi, bindT, setAll, startM, List.map_cons, List.map_nil, List.length_cons, List.length_nil, List.replicate, List.cons_append, List.nil_append, List.getElem?_cons_zero, List.getElem?_cons_succ, List.set_cons_succ, List.set_cons_zero, Nat.zero_add, Nat.reduceAdd, Nat.reduceSub, fII, fIIc, fLt, fLe, fGt, fGe, fSub, fMul, fDiv, fMod, fPow, fAdd, fLen, items, if_true, Cell.w, Ins.ws, tyW, isT, fIx, at0, at1, at2, at3]
    refine iteN (by decide) (iteN (by decide) (L_is_from rfl ?_))
    rw [hh]
    refine iteN (by decide) (iteN (by decide) ?_)
    simp only [fEq, eqW]
    refine iteN (by decide) (iteY (by decide) (iteY (by decide) ?_))
    simp only [mSl, mPart, fSl, cut3n, mDef, mSeq, mIfS, mVal, mNot, mAnd, mOr, mAndV, mOrV, mNotV, mIf, mOp, mChain, mVar, mC, mTup, mLst, mArgs, mCall, mFn, mDGet, mAsg, mRet, mNext, mRaise, mDrop, mIsi, bindT, setAll, startM, List.map_cons, List.map_nil, List.length_cons, List.length_nil, List.replicate, List.cons_append, List.nil_append, List.getElem?_cons_zero, List.getElem?_cons_succ, List.set_cons_succ, List.set_cons_zero, Nat.zero_add, Nat.reduceAdd, Nat.reduceSub, fII, fIIc, fLt, fLe, fGt, fGe, fSub, fMul, fDiv, fMod, fPow, fAdd, fLen, items, if_true]
    refine L_are_registers (ok_cons Ok.int ok_nil) (by simp) ?_
    have e : ([W.int r].all fun w => fromB w 0 7) = rg r := by simp [fromB, rg]
    rw [e]
    exact fg_of k
end
end K75


set_option Elab.async false
set_option linter.all false
set_option maxRecDepth 100000
set_option maxHeartbeats 8000000
namespace K75
open PySem PySem.Spec PyProof.Rows L2 ML
/-! # settles, cells -/
section
variable {q : Ads} {RX : MX} {M : Mh} {R : MK}
theorem L_settle {hues size many bank : Int} {x : Cell} (hx : ∀ h i, x = .ins h i → bt 0 h (hues - 1) = false) (k : R (.bl (x.fit hues size many bank)) M) : sp_settle_fits q RX [x.w, .int hues, .int many] M R := by
  rw [un_settle_fits]
  cases x with
  | ins h i =>
    have k : R (.bl (bt 0 h (hues - 1) && i.fit size bank)) M := k
    rw [hx h i rfl, Bool.false_and] at k
    simp only [mDef, mSeq, mIfS, mVal, mNot, mAnd, mOr, mAndV, mOrV, mNotV, mIf, mOp, mChain, mVar, mC, mTup, mLst, mArgs, mCall, mFn, mDGet, mAsg, mRet, mNext, mRaise, mDrop, mIsi, bindT, setAll, startM, List.map_cons, List.map_nil, List.length_cons, List.length_nil, List.replicate, List.cons_append, List.nil_append, List.getElem?_cons_zero, List.getElem?_cons_succ, List.set_cons_succ, List.set_cons_zero, Nat.zero_add, Nat.reduceAdd, Nat.reduceSub, fII, fIIc, fLt, fLe, fGt, fGe, fSub, fMul, fDiv, fMod, fPow, fAdd, fLen, items, if_true, Cell.w, tyW, isT, fIx, at0, fEq, eqW]
    refine iteN (by decide) (iteN (by simp; omega) (iteY (by decide) ?_))
    exact fg_of k
  | thr w a n =>
    simp only [mDef, mSeq, mIfS, mVal, mNot, mAnd, mOr, mAndV, mOrV, mNotV, mIf, mOp, mChain, mVar, mC, mTup, mLst, mArgs, mCall, mFn, mDGet, mAsg, mRet, mNext, mRaise, mDrop, mIsi, bindT, setAll, startM, List.map_cons, List.map_nil, List.length_cons, List.length_nil, List.replicate, List.cons_append, List.nil_append, List.getElem?_cons_zero, List.getElem?_cons_succ, List.set_cons_succ, List.set_cons_zero, Nat.zero_add, Nat.reduceAdd, Nat.reduceSub, fII, fIIc, fLt, fLe, fGt, fGe, fSub, fMul, fDiv, fMod, fPow, fAdd, fLen, items, if_true, Cell.w, tyW, isT, fIx, at0, at1, at2, fEq, fNe, eqW, fIn, fNotIn, inW, flatW, List.all_cons, List.all_nil, Bool.and_self, List.any_cons, List.any_nil, eqF]
    refine iteN (by decide) (iteN (by simp) (iteN (by decide) ?_))
    refine iteN (by cases w <;> decide) (iteN (by cases w <;> decide) (iteN (by cases w <;> decide) (iteN (by simp) (L_is_from rfl ?_))))
    have k : R (.bl (bt 1 n hues && bt 0 a (match (generalizing := false) w with | .sho => 5 | .tur => many - 1 | .tak => 7))) M := k
    have e : fromB (.int n) 1 hues = bt 1 n hues := rfl
    rw [e]
    cases hn : bt 1 n hues with
    | false =>
      rw [hn, Bool.false_and] at k
      exact iteY (by decide) (fg_of k)
    | true =>
      rw [hn, Bool.true_and] at k
      refine iteN (by decide) ?_
      simp only [mDict, mPairs, mDef, mSeq, mIfS, mVal, mNot, mAnd, mOr, mAndV, mOrV, mNotV, mIf, mOp, mChain, mVar, mC, mTup, mLst, mArgs, mCall, mFn, mDGet, mAsg, mRet, mNext, mRaise, mDrop, mIsi, bindT, setAll, startM, List.map_cons, List.map_nil, List.length_cons, List.length_nil, List.replicate, List.cons_append, List.nil_append, List.getElem?_cons_zero, List.getElem?_cons_succ, List.set_cons_succ, List.set_cons_zero, Nat.zero_add, Nat.reduceAdd, Nat.reduceSub, fII, fIIc, fLt, fLe, fGt, fGe, fSub, fMul, fDiv, fMod, fPow, fAdd, fLen, items, if_true, keyOf]
      intro p hp
      simp only [updM_same]
      have pn : M p = none := hp
      cases w
      · have e : getW (mergeW [] [(.inr "show", .int 5), (.inr "turn", .int (many - 1)), (.inr "take", .int (8 - 1))]) (.inr Th.sho.nm) = some (.int 5) := rfl
        simp only [e]
        refine L_is_from rfl ?_
        exact ⟨M, sub_new pn, k⟩
      · have e : getW (mergeW [] [(.inr "show", .int 5), (.inr "turn", .int (many - 1)), (.inr "take", .int (8 - 1))]) (.inr Th.tur.nm) = some (.int (many - 1)) := rfl
        simp only [e]
        refine L_is_from rfl ?_
        exact ⟨M, sub_new pn, k⟩
      · have e : getW (mergeW [] [(.inr "show", .int 5), (.inr "turn", .int (many - 1)), (.inr "take", .int (8 - 1))]) (.inr Th.tak.nm) = some (.int (8 - 1)) := rfl
        simp only [e]
        refine L_is_from rfl ?_
        exact ⟨M, sub_new pn, k⟩
  | goto a =>
    simp only [mDef, mSeq, mIfS, mVal, mNot, mAnd, mOr, mAndV, mOrV, mNotV, mIf, mOp, mChain, mVar, mC, mTup, mLst, mArgs, mCall, mFn, mDGet, mAsg, mRet, mNext, mRaise, mDrop, mIsi, bindT, setAll, startM, List.map_cons, List.map_nil, List.length_cons, List.length_nil, List.replicate, List.cons_append, List.nil_append, List.getElem?_cons_zero, List.getElem?_cons_succ, List.set_cons_succ, List.set_cons_zero, Nat.zero_add, Nat.reduceAdd, Nat.reduceSub, fII, fIIc, fLt, fLe, fGt, fGe, fSub, fMul, fDiv, fMod, fPow, fAdd, fLen, items, if_true, Cell.w, tyW, isT, fIx, at0, at1, fEq, fNe, eqW, fIn, fNotIn, inW, flatW, List.all_cons, List.all_nil, Bool.and_self, List.any_cons, List.any_nil, eqF]
    refine iteN (by decide) (iteN (by simp) (iteN (by decide) (iteN (by decide) (iteY (by decide) (iteY (by simp) (L_is_from rfl ?_))))))
    exact fg_of k
  | one w =>
    simp only [mDef, mSeq, mIfS, mVal, mNot, mAnd, mOr, mAndV, mOrV, mNotV, mIf, mOp, mChain, mVar, mC, mTup, mLst, mArgs, mCall, mFn, mDGet, mAsg, mRet, mNext, mRaise, mDrop, mIsi, bindT, setAll, startM, List.map_cons, List.map_nil, List.length_cons, List.length_nil, List.replicate, List.cons_append, List.nil_append, List.getElem?_cons_zero, List.getElem?_cons_succ, List.set_cons_succ, List.set_cons_zero, Nat.zero_add, Nat.reduceAdd, Nat.reduceSub, fII, fIIc, fLt, fLe, fGt, fGe, fSub, fMul, fDiv, fMod, fPow, fAdd, fLen, items, if_true, Cell.w, tyW, isT, fIx, at0, fEq, fNe, eqW, fIn, fNotIn, inW, flatW, List.all_cons, List.all_nil, Bool.and_self, List.any_cons, List.any_nil, eqF]
    refine iteN (by decide) (iteN (by simp) (iteN (by decide) (iteY (by cases w <;> decide) ?_)))
    exact fg_of k
theorem L_cell {hues size many bank : Int} {x : Cell} (k : R (.bl (x.fit hues size many bank)) M) : sp_cell_fits q RX [x.w, .int hues, .int size, .int many, .int bank] M R := by
  rw [un_cell_fits]
  cases x with
  | ins h i =>
    simp only [mDef, mSeq, mIfS, mVal, mNot, mAnd, mOr, mAndV, mOrV, mNotV, mIf, mOp, mChain, mVar, mC, mTup, mLst, mArgs, mCall, mFn, mDGet, mAsg, mRet, mNext, mRaise, mDrop, mIsi, bindT, setAll, startM, List.map_cons, List.map_nil, List.length_cons, List.length_nil, List.replicate, List.cons_append, List.nil_append, List.getElem?_cons_zero, List.getElem?_cons_succ, List.set_cons_succ, List.set_cons_zero, Nat.zero_add, Nat.reduceAdd, Nat.reduceSub, fII, fIIc, fLt, fLe, fGt, fGe, fSub, fMul, fDiv, fMod, fPow, fAdd, fLen, items, if_true, Cell.w, tyW, isT, fIx, at0, fEq, eqW]
    refine iteN (by decide) (iteN (by simp; omega) (L_is_from rfl ?_))
    have e2 : fromB (.int h) 0 (hues - 1) = bt 0 h (hues - 1) := rfl
    rw [e2]
    have k : R (.bl (bt 0 h (hues - 1) && i.fit size bank)) M := k
    cases hb : bt 0 h (hues - 1) with
    | true =>
      rw [hb, Bool.true_and] at k
      refine iteY rfl ?_
      refine L_instruction ?_
      exact fg_of k
    | false =>
      refine iteN (by decide) ?_
      refine L_settle (size := size) (bank := bank) (x := .ins h i) (fun h' i' z => by cases z; exact hb) ?_
      rw [hb, Bool.false_and] at k
      have e3 : Cell.fit hues size many bank (.ins h i) = (bt 0 h (hues - 1) && i.fit size bank) := rfl
      rw [e3, hb, Bool.false_and]
      exact fg_of k
  | thr w a n =>
    simp only [mDef, mSeq, mIfS, mVal, mNot, mAnd, mOr, mAndV, mOrV, mNotV, mIf, mOp, mChain, mVar, mC, mTup, mLst, mArgs, mCall, mFn, mDGet, mAsg, mRet, mNext, mRaise, mDrop, mIsi, bindT, setAll, startM, List.map_cons, List.map_nil, List.length_cons, List.length_nil, List.replicate, List.cons_append, List.nil_append, List.getElem?_cons_zero, List.getElem?_cons_succ, List.set_cons_succ, List.set_cons_zero, Nat.zero_add, Nat.reduceAdd, Nat.reduceSub, fII, fIIc, fLt, fLe, fGt, fGe, fSub, fMul, fDiv, fMod, fPow, fAdd, fLen, items, if_true, Cell.w, tyW, isT, fIx, at0, fEq, eqW]
    refine iteN (by decide) (iteN (by simp) (L_is_from rfl ?_))
    refine iteN (by simp [fromB]) ?_
    refine L_settle (size := size) (bank := bank) (x := .thr w a n) (fun h' i' z => by cases z) ?_
    exact fg_of k
  | goto a =>
    simp only [mDef, mSeq, mIfS, mVal, mNot, mAnd, mOr, mAndV, mOrV, mNotV, mIf, mOp, mChain, mVar, mC, mTup, mLst, mArgs, mCall, mFn, mDGet, mAsg, mRet, mNext, mRaise, mDrop, mIsi, bindT, setAll, startM, List.map_cons, List.map_nil, List.length_cons, List.length_nil, List.replicate, List.cons_append, List.nil_append, List.getElem?_cons_zero, List.getElem?_cons_succ, List.set_cons_succ, List.set_cons_zero, Nat.zero_add, Nat.reduceAdd, Nat.reduceSub, fII, fIIc, fLt, fLe, fGt, fGe, fSub, fMul, fDiv, fMod, fPow, fAdd, fLen, items, if_true, Cell.w, tyW, isT, fIx, at0, fEq, eqW]
    refine iteN (by decide) (iteN (by simp) (L_is_from rfl ?_))
    refine iteN (by simp [fromB]) ?_
    refine L_settle (size := size) (bank := bank) (x := .goto a) (fun h' i' z => by cases z) ?_
    exact fg_of k
  | one w =>
    simp only [mDef, mSeq, mIfS, mVal, mNot, mAnd, mOr, mAndV, mOrV, mNotV, mIf, mOp, mChain, mVar, mC, mTup, mLst, mArgs, mCall, mFn, mDGet, mAsg, mRet, mNext, mRaise, mDrop, mIsi, bindT, setAll, startM, List.map_cons, List.map_nil, List.length_cons, List.length_nil, List.replicate, List.cons_append, List.nil_append, List.getElem?_cons_zero, List.getElem?_cons_succ, List.set_cons_succ, List.set_cons_zero, Nat.zero_add, Nat.reduceAdd, Nat.reduceSub, fII, fIIc, fLt, fLe, fGt, fGe, fSub, fMul, fDiv, fMod, fPow, fAdd, fLen, items, if_true, Cell.w, tyW, isT, fIx, at0, fEq, eqW]
    refine iteN (by decide) (iteN (by simp) (L_is_from rfl ?_))
    refine iteN (by simp [fromB]) ?_
    refine L_settle (size := size) (bank := bank) (x := .one w) (fun h' i' z => by cases z) ?_
    exact fg_of k
end
end K75


set_option Elab.async false
set_option linter.all false
set_option maxRecDepth 100000
set_option maxHeartbeats 8000000
namespace K75
open PySem PySem.Spec PyProof.Rows L2 ML
/-! # stretches, plain -/
def Cell.isS : Cell → Bool
  | .ins _ _ => false
  | _ => true
def Cell.hue : Cell → Int
  | .ins h _ => h
  | _ => 0
def Cell.goal : Cell → Option Int
  | .thr .tur a _ => some a
  | .goto a => some a
  | _ => none
def isH (h : Int) (c : Cell) : Bool := !c.isS && decide (c.hue = h)
def Cell.skel (c : Cell) : Option Cell := if c.isS then some c else none
def goalL (c : Cell) : List Int := match c.goal with
  | some a => [a]
  | none => []
def nextL (len at' : Nat) : List Int := if at' + 1 < len then [((at' + 1 : Nat) : Int)] else []
def labL (len : Nat) : Nat → List Cell → List Int
  | _, [] => []
  | n, c :: cs => (if c.isS = true then goalL c ++ nextL len n else []) ++ labL len (n + 1) cs
def labs (cs : List Cell) : List Int := 0 :: labL cs.length 0 cs
def lab (cs : List Cell) (n : Nat) : Bool := decide ((n : Int) ∈ labs cs)
def sl (lb : Nat → Bool) : Nat → Option Nat → List Cell → List (Nat × Nat)
  | _, none, [] => []
  | n, some f, [] => [(f, n)]
  | n, none, c :: cs => sl lb (n + 1) (if c.isS = true then none else some n) cs
  | n, some f, c :: cs => if (lb n || c.isS) = true then (f, n) :: sl lb (n + 1) (if c.isS = true then none else some n) cs else sl lb (n + 1) (some f) cs
def St (cs : List Cell) : List (Nat × Nat) := sl (lab cs) 0 none cs
def insAt (cs : List Cell) (i : Nat) : Prop := ∃ c, cs[i]? = some c ∧ c.isS = false
def inner (lb : Nat → Bool) (cs : List Cell) (n : Nat) : Prop := 0 < n ∧ lb n = false ∧ insAt cs (n - 1) ∧ insAt cs n
def InvO (lb : Nat → Bool) (all : List Cell) (n : Nat) : Option Nat → Prop
  | none => ∀ m, n = m + 1 → ¬ insAt all m
  | some f => f < n ∧ ¬ inner lb all f ∧ (∀ m, f < m → m < n → inner lb all m) ∧ ∀ i, f ≤ i → i < n → insAt all i
structure Good (lb : Nat → Bool) (all : List Cell) (from' : Nat) (L : List (Nat × Nat)) : Prop where
  each : ∀ p ∈ L, from' ≤ p.1 ∧ p.1 < p.2 ∧ p.2 ≤ all.length ∧ ¬ inner lb all p.1 ∧ ¬ inner lb all p.2 ∧ (∀ n, p.1 < n → n < p.2 → inner lb all n) ∧ ∀ i, p.1 ≤ i → i < p.2 → insAt all i
  pw : L.Pairwise fun p q => p.2 ≤ q.1
  cov : ∀ i, from' ≤ i → i < all.length → insAt all i → ∃ p ∈ L, p.1 ≤ i ∧ i < p.2
theorem drop_cons {α : Type} {all cs : List α} {n : Nat} {c : α} (h : all.drop n = c :: cs) : all[n]? = some c ∧ all.drop (n + 1) = cs ∧ n < all.length := by
  have hl : n < all.length := by
    rcases Nat.lt_or_ge n all.length with z | z
    · exact z
    · rw [List.drop_of_length_le z] at h; cases h
  refine ⟨?_, ?_, hl⟩
  · have := congrArg (fun l => l[0]?) h
    simpa [List.getElem?_drop] using this
  · rw [← List.drop_drop, h]; rfl
theorem drop_nil {α : Type} {all : List α} {n : Nat} (h : all.drop n = []) (k : n ≤ all.length) : n = all.length := by
  have := congrArg List.length h
  rw [List.length_drop] at this
  simp at this
  omega
theorem insAt_of {all : List Cell} {n : Nat} {c : Cell} (h : all[n]? = some c) (k : c.isS = false) : insAt all n := ⟨c, h, k⟩
theorem not_insAt {all : List Cell} {n : Nat} {c : Cell} (h : all[n]? = some c) (k : c.isS = true) : ¬ insAt all n := fun ⟨d, e, f⟩ => by
  rw [h] at e; cases e; rw [k] at f; cases f
theorem inner_pos {lb : Nat → Bool} {all : List Cell} {n : Nat} (h : ∀ m, n = m + 1 → ¬ insAt all m) : ¬ inner lb all n := fun ⟨z, _, y, _⟩ => by
  cases n with
  | zero => cases z
  | succ m => exact h m rfl y
theorem sl_good {lb : Nat → Bool} {all : List Cell} : ∀ (cs : List Cell) (n : Nat) (o : Option Nat), all.drop n = cs → n ≤ all.length → InvO lb all n o → Good lb all (o.getD n) (sl lb n o cs)
  | [], n, none, h, hl, _ => by
    have := drop_nil h hl
    unfold sl
    refine ⟨fun p hp => absurd hp (List.not_mem_nil), List.Pairwise.nil, fun i a b _ => ?_⟩
    simp at a
    omega
  | [], n, some f, h, hl, ⟨i1, i2, i3, i4⟩ => by
    have e := drop_nil h hl
    unfold sl
    refine ⟨fun p hp => ?_, List.pairwise_singleton _ _, fun i a b _ => ⟨_, List.mem_singleton.mpr rfl, by simpa using a, by simp; omega⟩⟩
    rw [List.mem_singleton] at hp
    subst hp
    refine ⟨Nat.le_refl _, i1, hl, i2, fun z => ?_, i3, i4⟩
    obtain ⟨c, hc, _⟩ := z.2.2.2
    have := (List.getElem?_eq_some_iff.mp hc).1
    simp at this
    omega
  | c :: cs, n, none, h, hl, i => by
    obtain ⟨h1, h2, h3⟩ := drop_cons h
    unfold sl
    cases hc : c.isS with
    | true =>
      have ih := sl_good (lb := lb) cs (n + 1) none h2 h3 fun m e => by
        have : m = n := by omega
        subst this
        exact not_insAt h1 hc
      simp only [if_true]
      refine ⟨fun p hp => ?_, ih.pw, fun j a b d => ?_⟩
      · have := ih.each p hp
        simp only [Option.getD_none] at this ⊢
        exact ⟨by omega, this.2⟩
      · simp only [Option.getD_none] at a
        rcases Nat.lt_or_ge n j with z | z
        · exact ih.cov j z b d
        · have : j = n := by omega
          subst this
          exact absurd d (not_insAt h1 hc)
    | false =>
      have ih := sl_good (lb := lb) cs (n + 1) (some n) h2 h3 ⟨Nat.lt_succ_self n, inner_pos i, fun m a b => by omega, fun j a b => by
        have : j = n := by omega
        subst this
        exact insAt_of h1 hc⟩
      simpa using ih
  | c :: cs, n, some f, h, hl, ⟨i1, i2, i3, i4⟩ => by
    obtain ⟨h1, h2, h3⟩ := drop_cons h
    unfold sl
    by_cases fire : (lb n || c.isS) = true
    · rw [if_pos fire]
      have ni : ¬ inner lb all n := fun z => by
        rcases Bool.or_eq_true_iff.mp fire with e | e
        · rw [z.2.1] at e; cases e
        · exact not_insAt h1 e z.2.2.2
      have ih : Good lb all n (sl lb (n + 1) (if c.isS = true then none else some n) cs) := by
        cases hc : c.isS with
        | true =>
          have ih := sl_good (lb := lb) cs (n + 1) none h2 h3 fun m e => by
            have : m = n := by omega
            subst this
            exact not_insAt h1 hc
          simp only [if_true]
          refine ⟨fun p hp => ?_, ih.pw, fun j a b d => ?_⟩
          · have := ih.each p hp
            simp only [Option.getD_none] at this
            exact ⟨by omega, this.2⟩
          · rcases Nat.lt_or_ge n j with z | z
            · exact ih.cov j z b d
            · have : j = n := by omega
              subst this
              exact absurd d (not_insAt h1 hc)
        | false =>
          have ih := sl_good (lb := lb) cs (n + 1) (some n) h2 h3 ⟨Nat.lt_succ_self n, ni, fun m a b => by omega, fun j a b => by
            have : j = n := by omega
            subst this
            exact insAt_of h1 hc⟩
          simpa using ih
      refine ⟨fun p hp => ?_, List.pairwise_cons.mpr ⟨fun q hq => (ih.each q hq).1, ih.pw⟩, fun j a b d => ?_⟩
      · rcases List.mem_cons.mp hp with e | e
        · subst e
          exact ⟨Nat.le_refl _, i1, by simp only; omega, i2, ni, i3, i4⟩
        · have := ih.each p e
          simp only [Option.getD_some]
          exact ⟨by omega, this.2⟩
      · simp only [Option.getD_some] at a
        rcases Nat.lt_or_ge j n with z | z
        · exact ⟨(f, n), List.mem_cons_self, a, z⟩
        · obtain ⟨p, hp, k⟩ := ih.cov j z b d
          exact ⟨p, List.mem_cons_of_mem _ hp, k⟩
    · rw [if_neg fire]
      simp only [Bool.or_eq_true, not_or, Bool.not_eq_true] at fire
      have ht : insAt all n := insAt_of h1 fire.2
      have ih := sl_good (lb := lb) cs (n + 1) (some f) h2 h3 ⟨by omega, i2, fun m a b => by
        rcases Nat.lt_or_ge m n with z | z
        · exact i3 m a z
        · have : m = n := by omega
          subst this
          exact ⟨by omega, fire.1, i4 _ (by omega) (by omega), ht⟩, fun j a b => by
        rcases Nat.lt_or_ge j n with z | z
        · exact i4 j a z
        · have : j = n := by omega
          subst this
          exact ht⟩
      simpa using ih
theorem St_good (cs : List Cell) : Good (lab cs) cs 0 (St cs) := sl_good cs 0 none rfl (Nat.zero_le _) fun m e => by omega
/-! ## what hangs on settles alone -/
theorem skel_isS {c d : Cell} (h : d.skel = c.skel) : d.isS = c.isS := by
  unfold Cell.skel at h
  cases hc : c.isS <;> cases hd : d.isS <;> simp_all
theorem skel_eq {c d : Cell} (h : d.skel = c.skel) (s : c.isS = true) : d = c := by
  have := skel_isS h
  unfold Cell.skel at h
  simp_all
theorem labL_skel {len : Nat} : ∀ {cs ds : List Cell} {n : Nat}, ds.map Cell.skel = cs.map Cell.skel → labL len n ds = labL len n cs
  | [], [], _, _ => rfl
  | [], _ :: _, _, h => by simp at h
  | _ :: _, [], _, h => by simp at h
  | c :: cs, d :: ds, n, h => by
    simp only [List.map_cons, List.cons.injEq] at h
    unfold labL
    rw [labL_skel h.2, skel_isS h.1]
    cases s : c.isS with
    | true => rw [skel_eq h.1 s]
    | false => rfl
theorem sl_skel {lb : Nat → Bool} : ∀ {cs ds : List Cell} {n : Nat} {o : Option Nat}, ds.map Cell.skel = cs.map Cell.skel → sl lb n o ds = sl lb n o cs
  | [], [], _, _, _ => rfl
  | [], _ :: _, _, _, h => by simp at h
  | _ :: _, [], _, _, h => by simp at h
  | c :: cs, d :: ds, n, o, h => by
    simp only [List.map_cons, List.cons.injEq] at h
    cases o with
    | none => unfold sl; rw [sl_skel h.2, skel_isS h.1]
    | some f => unfold sl; rw [skel_isS h.1, sl_skel (o := some f) h.2, sl_skel (o := if c.isS = true then none else some n) h.2]
theorem skel_length {cs ds : List Cell} (h : ds.map Cell.skel = cs.map Cell.skel) : ds.length = cs.length := by
  have := congrArg List.length h
  simpa using this
theorem labs_skel {cs ds : List Cell} (h : ds.map Cell.skel = cs.map Cell.skel) : labs ds = labs cs := by
  unfold labs
  rw [skel_length h, labL_skel h]
theorem lab_skel {cs ds : List Cell} (h : ds.map Cell.skel = cs.map Cell.skel) : lab ds = lab cs := by
  funext n
  unfold lab
  rw [labs_skel h]
theorem St_skel {cs ds : List Cell} (h : ds.map Cell.skel = cs.map Cell.skel) : St ds = St cs := by
  unfold St
  rw [lab_skel h, sl_skel h]
theorem skel_get {cs ds : List Cell} (h : ds.map Cell.skel = cs.map Cell.skel) {i : Nat} {c : Cell} (e : cs[i]? = some c) : ∃ d, ds[i]? = some d ∧ d.skel = c.skel := by
  have := congrArg (fun l => l[i]?) h
  simp only [List.getElem?_map, e, Option.map_some] at this
  cases hd : ds[i]? with
  | none => rw [hd] at this; cases this
  | some d => rw [hd] at this; exact ⟨d, rfl, by simpa using this⟩
theorem insAt_skel {cs ds : List Cell} (h : ds.map Cell.skel = cs.map Cell.skel) {i : Nat} (e : insAt cs i) : insAt ds i := by
  obtain ⟨c, hc, k⟩ := e
  obtain ⟨d, hd, e⟩ := skel_get h hc
  exact ⟨d, hd, by rw [skel_isS e, k]⟩
theorem inner_skel {lb : Nat → Bool} {cs ds : List Cell} (h : ds.map Cell.skel = cs.map Cell.skel) {n : Nat} : inner lb ds n ↔ inner lb cs n :=
  ⟨fun ⟨a, b, c, d⟩ => ⟨a, b, insAt_skel h.symm c, insAt_skel h.symm d⟩, fun ⟨a, b, c, d⟩ => ⟨a, b, insAt_skel h c, insAt_skel h d⟩⟩
/-! ## exchanges -/
def dif (cs : List Cell) (i : Nat) : Bool := match cs[i]?, cs[i + 1]? with
  | some c, some d => decide (c.hue ≠ d.hue)
  | _, _ => false
def spots (cs : List Cell) : List Nat := (St cs).flatMap fun p => ((List.range (p.2 - 1 - p.1)).map (p.1 + ·)).filter (dif cs)
def swapAt (a : Nat) (cs : List Cell) : List Cell := match cs[a]?, cs[a + 1]? with
  | some x, some y => cs.take a ++ y :: x :: cs.drop (a + 2)
  | _, _ => cs
theorem mem_spots {cs : List Cell} {a : Nat} : a ∈ spots cs ↔ ∃ p ∈ St cs, p.1 ≤ a ∧ a + 1 < p.2 ∧ dif cs a = true := by
  unfold spots
  rw [List.mem_flatMap]
  constructor
  · rintro ⟨p, hp, h⟩
    rw [List.mem_filter, List.mem_map] at h
    obtain ⟨⟨j, hj, rfl⟩, hd⟩ := h
    rw [List.mem_range] at hj
    exact ⟨p, hp, by omega, by omega, hd⟩
  · rintro ⟨p, hp, a1, a2, hd⟩
    refine ⟨p, hp, ?_⟩
    rw [List.mem_filter, List.mem_map]
    exact ⟨⟨a - p.1, List.mem_range.mpr (by omega), by omega⟩, hd⟩
theorem spots_inner {cs : List Cell} {a : Nat} (h : a ∈ spots cs) : inner (lab cs) cs (a + 1) ∧ dif cs a = true := by
  obtain ⟨p, hp, a1, a2, hd⟩ := mem_spots.mp h
  exact ⟨((St_good cs).each p hp).2.2.2.2.2.1 (a + 1) (by omega) a2, hd⟩
/-- two neighbours -/
theorem at_two {cs : List Cell} {a : Nat} {x y : Cell} (hx : cs[a]? = some x) (hy : cs[a + 1]? = some y) : ∃ l r, cs = l ++ x :: y :: r ∧ l.length = a := by
  have h1 := (List.getElem?_eq_some_iff.mp hx).1
  have h2 := (List.getElem?_eq_some_iff.mp hy).1
  refine ⟨cs.take a, cs.drop (a + 2), ?_, by rw [List.length_take]; omega⟩
  have e1 : cs.drop a = x :: cs.drop (a + 1) := by rw [List.drop_eq_getElem_cons h1]; congr 1; exact (List.getElem?_eq_some_iff.mp hx).2
  have e2 : cs.drop (a + 1) = y :: cs.drop (a + 2) := by rw [List.drop_eq_getElem_cons h2]; congr 1; exact (List.getElem?_eq_some_iff.mp hy).2
  rw [← e2, ← e1, List.take_append_drop]
theorem swap_is (l r : List Cell) (x y : Cell) : swapAt l.length (l ++ x :: y :: r) = l ++ y :: x :: r := by
  unfold swapAt
  have e1 : (l ++ x :: y :: r)[l.length]? = some x := by simp
  have e2 : (l ++ x :: y :: r)[l.length + 1]? = some y := by rw [List.getElem?_append_right (by omega)]; simp
  have e3 : (l ++ x :: y :: r).drop (l.length + 2) = r := by rw [← List.drop_drop, List.drop_left]; rfl
  rw [e1, e2]
  simp only
  rw [e3, List.take_left]
theorem swap_swap {cs : List Cell} {a : Nat} : swapAt a (swapAt a cs) = cs := by
  cases hx : cs[a]? with
  | none => unfold swapAt; simp [hx]
  | some x =>
    cases hy : cs[a + 1]? with
    | none => unfold swapAt; simp [hx, hy]
    | some y =>
      obtain ⟨l, r, rfl, rfl⟩ := at_two hx hy
      rw [swap_is, swap_is]
structure Sch (cs ds : List Cell) : Prop where
  sk : ds.map Cell.skel = cs.map Cell.skel
  cut : ∀ n, ¬ inner (lab cs) cs n → ∀ h, (ds.take n).filter (isH h) = (cs.take n).filter (isH h)
theorem Sch.refl (cs : List Cell) : Sch cs cs := ⟨rfl, fun _ _ _ => rfl⟩
theorem Sch.st {cs ds : List Cell} (s : Sch cs ds) : St ds = St cs := St_skel s.sk
theorem Sch.step {cs ds : List Cell} {a : Nat} (s : Sch cs ds) (h : a ∈ spots ds) : Sch cs (swapAt a ds) := by
  obtain ⟨hi, hd⟩ := spots_inner h
  have hi' : inner (lab cs) cs (a + 1) := (inner_skel s.sk).mp (by rw [← lab_skel s.sk]; exact hi)
  obtain ⟨_, _, ⟨x, hx, sx⟩, ⟨y, hy, sy⟩⟩ := hi
  simp only [Nat.add_sub_cancel] at hx
  obtain ⟨l, r, rfl, rfl⟩ := at_two hx hy
  have dxy : x.hue ≠ y.hue := by
    unfold dif at hd
    rw [hx, hy] at hd
    simpa using hd
  rw [swap_is]
  have kx : x.skel = none := by unfold Cell.skel; rw [sx]; rfl
  have ky : y.skel = none := by unfold Cell.skel; rw [sy]; rfl
  refine ⟨?_, fun n hn h => ?_⟩
  · rw [← s.sk]
    simp [kx, ky]
  · rw [← s.cut n hn h]
    rcases Nat.lt_trichotomy n (l.length + 1) with z | z | z
    · rw [List.take_append_of_le_length (by omega), List.take_append_of_le_length (by omega)]
    · subst z
      exact absurd hi' hn
    · obtain ⟨k, rfl⟩ : ∃ k, n = l.length + (k + 2) := ⟨n - l.length - 2, by omega⟩
      rw [List.take_append, List.take_append, List.take_of_length_le (by omega)]
      simp only [Nat.add_sub_cancel_left, List.take_succ_cons, List.filter_append, List.filter_cons]
      have : ¬ (isH h x = true ∧ isH h y = true) := by
        unfold isH
        rw [sx, sy]
        simp only [Bool.not_false, Bool.true_and, decide_eq_true_eq]
        intro ⟨a, b⟩
        exact dxy (a.trans b.symm)
      cases e1 : isH h x <;> cases e2 : isH h y <;> simp_all
theorem dif_swap {cs : List Cell} {a : Nat} (h : dif cs a = true) : dif (swapAt a cs) a = true := by
  unfold dif at h
  cases hx : cs[a]? with
  | none => rw [hx] at h; simp at h
  | some x =>
    cases hy : cs[a + 1]? with
    | none => rw [hx, hy] at h; simp at h
    | some y =>
      rw [hx, hy] at h
      obtain ⟨l, r, rfl, rfl⟩ := at_two hx hy
      rw [swap_is]
      unfold dif
      have e1 : (l ++ y :: x :: r)[l.length]? = some y := by simp
      have e2 : (l ++ y :: x :: r)[l.length + 1]? = some x := by rw [List.getElem?_append_right (by omega)]; simp
      rw [e1, e2]
      simp only [decide_eq_true_eq] at h ⊢
      exact fun z => h z.symm
theorem spots_swap {cs : List Cell} {a : Nat} (h : a ∈ spots cs) : a ∈ spots (swapAt a cs) := by
  have s := (Sch.refl cs).step h
  obtain ⟨p, hp, a1, a2, hd⟩ := mem_spots.mp h
  exact mem_spots.mpr ⟨p, by rw [s.st]; exact hp, a1, a2, dif_swap hd⟩
/-! ## sorted -/
def sortC (cs : List Cell) : List Cell := sortK (cs.map Cell.hue) cs
def slice (f e : Nat) (cs : List Cell) : List Cell := (cs.drop f).take (e - f)
def setSl (f e : Nat) (v cs : List Cell) : List Cell := cs.take f ++ v ++ cs.drop e
def ordL (L : List (Nat × Nat)) (cs : List Cell) : List Cell := L.foldl (fun acc p => setSl p.1 p.2 (sortC (slice p.1 p.2 acc)) acc) cs
def ord (cs : List Cell) : List Cell := ordL (St cs) cs
theorem zip_hue (cs : List Cell) : (cs.map Cell.hue).zip cs = cs.map fun c => (c.hue, c) := by
  induction cs with
  | nil => rfl
  | cons c cs ih => simp [ih]
theorem sortC_length (cs : List Cell) : (sortC cs).length = cs.length := by
  unfold sortC sortK
  rw [List.length_map, isK_length, zip_hue, List.length_map]
theorem slice_get {f e i : Nat} {cs : List Cell} : (slice f e cs)[i]? = if i < e - f then cs[f + i]? else none := by
  unfold slice
  rw [List.getElem?_take, List.getElem?_drop]
theorem slice_length {f e : Nat} {cs : List Cell} (h : e ≤ cs.length) : (slice f e cs).length = e - f := by
  unfold slice
  rw [List.length_take, List.length_drop]
  omega
theorem setSl_length {f e : Nat} {v cs : List Cell} (hv : v.length = e - f) (fe : f ≤ e) (h : e ≤ cs.length) : (setSl f e v cs).length = cs.length := by
  unfold setSl
  simp
  omega
theorem setSl_get {f e i : Nat} {v cs : List Cell} (hv : v.length = e - f) (fe : f ≤ e) (h : e ≤ cs.length) : (setSl f e v cs)[i]? = if f ≤ i ∧ i < e then v[i - f]? else cs[i]? := by
  unfold setSl
  have l1 : (cs.take f).length = f := by rw [List.length_take]; omega
  rcases Nat.lt_or_ge i f with z | z
  · rw [if_neg (by omega), List.append_assoc, List.getElem?_append_left (by omega), List.getElem?_take, if_pos z]
  · rcases Nat.lt_or_ge i e with y | y
    · rw [if_pos ⟨z, y⟩, List.append_assoc, List.getElem?_append_right (by omega), List.getElem?_append_left (by omega), l1]
    · rw [if_neg (by omega), List.getElem?_append_right (by simp; omega), List.getElem?_drop]
      congr 1
      simp
      omega
theorem ordL_congr : ∀ (L : List (Nat × Nat)) (cs ds : List Cell), L.Pairwise (fun p q => p.2 ≤ q.1) → (∀ p ∈ L, p.1 < p.2 ∧ p.2 ≤ cs.length) → ds.length = cs.length →
    (∀ p ∈ L, sortC (slice p.1 p.2 ds) = sortC (slice p.1 p.2 cs)) → (∀ i, (∀ p ∈ L, ¬ (p.1 ≤ i ∧ i < p.2)) → ds[i]? = cs[i]?) → ordL L ds = ordL L cs
  | [], cs, ds, _, _, _, _, h => List.ext_getElem? fun i => h i fun p hp => absurd hp List.not_mem_nil
  | p :: L, cs, ds, pw, hb, hl, hs, ho => by
    unfold ordL
    rw [List.foldl_cons, List.foldl_cons]
    obtain ⟨b1, b2⟩ := hb p List.mem_cons_self
    rw [List.pairwise_cons] at pw
    have v1 : (sortC (slice p.1 p.2 cs)).length = p.2 - p.1 := by rw [sortC_length, slice_length b2]
    have v2 : (sortC (slice p.1 p.2 ds)).length = p.2 - p.1 := by rw [sortC_length, slice_length (by omega)]
    have sl' : ∀ (q : Nat × Nat), q ∈ L → ∀ xs : List Cell, xs.length = cs.length → (sortC (slice p.1 p.2 xs)).length = p.2 - p.1 → slice q.1 q.2 (setSl p.1 p.2 (sortC (slice p.1 p.2 xs)) xs) = slice q.1 q.2 xs := fun q hq xs hx hv => by
      apply List.ext_getElem?
      intro i
      rw [slice_get, slice_get]
      have := pw.1 q hq
      split
      · rw [setSl_get hv (by omega) (by omega), if_neg (by omega)]
      · rfl
    refine ordL_congr L _ _ pw.2 (fun q hq => ?_) ?_ (fun q hq => ?_) fun i hi => ?_
    · rw [setSl_length v1 (by omega) b2]
      exact hb q (List.mem_cons_of_mem _ hq)
    · rw [setSl_length v1 (by omega) b2, setSl_length v2 (by omega) (by omega), hl]
    · rw [sl' q hq ds hl v2, sl' q hq cs rfl v1]
      exact hs q (List.mem_cons_of_mem _ hq)
    · rw [setSl_get v1 (by omega) b2, setSl_get v2 (by omega) (by omega)]
      split
      · rw [hs p List.mem_cons_self]
      · rename_i z
        exact ho i fun q hq => by
          rcases List.mem_cons.mp hq with e | e
          · rw [e]; exact z
          · exact hi q e
theorem insK_perm (p : Int × Cell) : ∀ l : List (Int × Cell), (insK p l).Perm (p :: l)
  | [] => List.Perm.refl _
  | q :: r => by
    unfold insK
    split
    · exact List.Perm.refl _
    · exact ((insK_perm p r).cons q).trans (List.Perm.swap p q r)
theorem isK_perm : ∀ l : List (Int × Cell), (isK l).Perm l
  | [] => List.Perm.refl _
  | p :: r => (insK_perm p (isK r)).trans ((isK_perm r).cons p)
theorem sortC_perm (cs : List Cell) : (sortC cs).Perm cs := by
  have h : (sortC cs).Perm (((cs.map Cell.hue).zip cs).map Prod.snd) := (isK_perm _).map _
  rw [zip_hue, List.map_map] at h
  have e : cs.map (Prod.snd ∘ fun c => (c.hue, c)) = cs := by
    have : (Prod.snd ∘ fun c : Cell => (c.hue, c)) = id := rfl
    rw [this, List.map_id]
  rw [e] at h
  exact h
theorem setSl_perm {f e : Nat} {cs : List Cell} (fe : f ≤ e) : (setSl f e (sortC (slice f e cs)) cs).Perm cs := by
  have d : cs = cs.take f ++ slice f e cs ++ cs.drop e := by
    unfold slice
    rw [List.append_assoc]
    have : cs.drop e = (cs.drop f).drop (e - f) := by rw [List.drop_drop]; congr 1; omega
    rw [this, List.take_append_drop, List.take_append_drop]
  have : (setSl f e (sortC (slice f e cs)) cs).Perm (cs.take f ++ slice f e cs ++ cs.drop e) := ((sortC_perm _).append_left _).append_right _
  rw [← d] at this
  exact this
theorem ordL_perm : ∀ (L : List (Nat × Nat)) (cs : List Cell), (∀ p ∈ L, p.1 < p.2) → (ordL L cs).Perm cs
  | [], cs, _ => List.Perm.refl _
  | p :: L, cs, h => by
    unfold ordL
    rw [List.foldl_cons]
    exact (ordL_perm L _ fun q hq => h q (List.mem_cons_of_mem _ hq)).trans (setSl_perm (Nat.le_of_lt (h p List.mem_cons_self)))
theorem ord_perm (cs : List Cell) : (ord cs).Perm cs := ordL_perm _ _ fun p hp => ((St_good cs).each p hp).2.1
theorem filter_pair (h : Int) : ∀ cs : List Cell, (∀ c ∈ cs, c.isS = false) → (cs.map fun c => (c.hue, c)).filter (fun q => q.1 == h) = (cs.filter (isH h)).map fun c => (c.hue, c)
  | [], _ => rfl
  | c :: cs, k => by
    have ih := filter_pair h cs fun d hd => k d (List.mem_cons_of_mem _ hd)
    have e : isH h c = (c.hue == h) := by
      unfold isH
      rw [k c List.mem_cons_self]
      simp [Bool.beq_eq_decide_eq]
    rw [List.map_cons, List.filter_cons, List.filter_cons, ih, e]
    cases c.hue == h <;> rfl
theorem sortC_congr {cs ds : List Cell} (hc : ∀ c ∈ cs, c.isS = false) (hd : ∀ c ∈ ds, c.isS = false) (h : ∀ k, ds.filter (isH k) = cs.filter (isH k)) : sortC ds = sortC cs := by
  unfold sortC sortK
  congr 1
  refine sorted_unique (isK_sorted _) (isK_sorted _) fun k => ?_
  rw [isK_filter, isK_filter, zip_hue, zip_hue, filter_pair k cs hc, filter_pair k ds hd, h k]
theorem take_slice {f e : Nat} {cs : List Cell} (fe : f ≤ e) : cs.take e = cs.take f ++ slice f e cs := by
  unfold slice
  obtain ⟨k, rfl⟩ : ∃ k, e = f + k := ⟨e - f, by omega⟩
  rw [List.take_add, Nat.add_sub_cancel_left]
theorem Sch.part {cs ds : List Cell} (s : Sch cs ds) {p : Nat × Nat} (hp : p ∈ St cs) (h : Int) : (slice p.1 p.2 ds).filter (isH h) = (slice p.1 p.2 cs).filter (isH h) := by
  obtain ⟨_, a, _, b, c, _⟩ := (St_good cs).each p hp
  have h1 := s.cut _ b h
  have h2 := s.cut _ c h
  rw [take_slice (Nat.le_of_lt a), take_slice (cs := cs) (Nat.le_of_lt a), List.filter_append, List.filter_append, h1] at h2
  exact List.append_cancel_left h2
theorem slice_ins {cs : List Cell} {p : Nat × Nat} (hp : p ∈ St cs) : ∀ c ∈ slice p.1 p.2 cs, c.isS = false := fun c hc => by
  obtain ⟨i, hi⟩ := List.getElem?_of_mem hc
  rw [slice_get] at hi
  split at hi
  · rename_i z
    obtain ⟨d, hd, k⟩ := ((St_good cs).each p hp).2.2.2.2.2.2 (p.1 + i) (by omega) (by omega)
    rw [hi] at hd
    cases hd
    exact k
  · cases hi
theorem Sch.out {cs ds : List Cell} (s : Sch cs ds) {i : Nat} (h : ¬ insAt cs i) : ds[i]? = cs[i]? := by
  cases hc : cs[i]? with
  | none =>
    rw [List.getElem?_eq_none_iff] at hc ⊢
    rw [skel_length s.sk]
    exact hc
  | some c =>
    obtain ⟨d, hd, e⟩ := skel_get s.sk hc
    cases k : c.isS with
    | false => exact absurd ⟨c, hc, k⟩ h
    | true => rw [hd, skel_eq e k]
theorem Sch.ord {cs ds : List Cell} (s : Sch cs ds) : ord ds = ord cs := by
  unfold K75.ord
  rw [s.st]
  have g := St_good cs
  refine ordL_congr _ _ _ g.pw (fun p hp => ⟨(g.each p hp).2.1, (g.each p hp).2.2.1⟩) (skel_length s.sk) (fun p hp => ?_) fun i hi => ?_
  · exact sortC_congr (slice_ins hp) (slice_ins (by rw [s.st]; exact hp)) (s.part hp)
  · refine s.out fun z => ?_
    rcases Nat.lt_or_ge i cs.length with y | y
    · obtain ⟨p, hp, k⟩ := g.cov i (Nat.zero_le _) y z
      exact hi p hp k
    · obtain ⟨c, hc, _⟩ := z
      have := (List.getElem?_eq_some_iff.mp hc).1
      omega
/-! ## where a cell goes -/
/-- the place of the n-th cell of the hue, among some places -/
def nthL (cs : List Cell) (h : Int) : List Nat → Nat → Option Nat
  | [], _ => none
  | i :: is, n => match cs[i]? with
    | some c => if isH h c = true then (match n with
      | 0 => some i
      | n + 1 => nthL cs h is n) else nthL cs h is n
    | none => none
theorem nthL_is {cs : List Cell} {h : Int} : ∀ (k f n : Nat) (c : Cell), ((slice f (f + k) cs).filter (isH h))[n]? = some c → ∃ g, nthL cs h ((List.range k).map (f + ·)) n = some g ∧ cs[g]? = some c ∧ ((cs.take g).filter (isH h)).length = ((cs.take f).filter (isH h)).length + n
  | 0, f, n, c, e => by unfold slice at e; simp at e
  | k + 1, f, n, c, e => by
    cases hf : cs[f]? with
    | none =>
      have : slice f (f + (k + 1)) cs = [] := by
        unfold slice
        rw [List.getElem?_eq_none_iff] at hf
        rw [List.drop_of_length_le hf, List.take_nil]
      rw [this] at e
      simp at e
    | some x =>
      have hl := (List.getElem?_eq_some_iff.mp hf).1
      have e1 : slice f (f + (k + 1)) cs = x :: slice (f + 1) (f + 1 + k) cs := by
        unfold slice
        rw [List.drop_eq_getElem_cons hl]
        have : f + (k + 1) - f = (f + 1 + k - (f + 1)) + 1 := by omega
        rw [this, List.take_succ_cons]
        congr 1
        exact (List.getElem?_eq_some_iff.mp hf).2
      have e2 : (List.range (k + 1)).map (f + ·) = f :: (List.range k).map (f + 1 + ·) := by
        rw [List.range_succ_eq_map, List.map_cons, List.map_map]
        congr 1
        apply List.map_congr_left
        intro i _
        simp
        omega
      have e3 : cs.take (f + 1) = cs.take f ++ [x] := by rw [List.take_succ, hf]; rfl
      rw [e1, List.filter_cons] at e
      rw [e2]
      unfold nthL
      rw [hf]
      simp only
      cases hx : isH h x with
      | true =>
        rw [hx] at e
        simp only [if_true] at e ⊢
        cases n with
        | zero =>
          simp at e
          subst e
          exact ⟨f, rfl, hf, rfl⟩
        | succ n =>
          simp only [List.getElem?_cons_succ] at e
          obtain ⟨g, g1, g2, g3⟩ := nthL_is k (f + 1) n c e
          refine ⟨g, g1, g2, ?_⟩
          rw [g3, e3, List.filter_append, List.length_append]
          simp [hx]
          omega
      | false =>
        rw [hx] at e
        rw [if_neg (by decide)] at e ⊢
        obtain ⟨g, g1, g2, g3⟩ := nthL_is k (f + 1) n c e
        refine ⟨g, g1, g2, ?_⟩
        rw [g3, e3, List.filter_append]
        simp [hx]
def goalOf (cs ds : List Cell) (a : Nat) : List (Nat × Nat) → Nat
  | [] => a
  | p :: L => if p.1 ≤ a ∧ a < p.2 then (match cs[a]? with
    | some c => (nthL ds c.hue ((List.range (p.2 - p.1)).map (p.1 + ·)) ((slice p.1 a cs).filter (isH c.hue)).length).getD p.2
    | none => a) else goalOf cs ds a L
/-- what moved_spot tells -/
def goal (cs ds : List Cell) (a : Nat) : Nat := goalOf cs ds a (St cs)
theorem goalOf_out {cs ds : List Cell} {a : Nat} : ∀ {L : List (Nat × Nat)}, (∀ p ∈ L, ¬ (p.1 ≤ a ∧ a < p.2)) → goalOf cs ds a L = a
  | [], _ => rfl
  | p :: L, h => by
    unfold goalOf
    rw [if_neg (h p List.mem_cons_self)]
    exact goalOf_out fun q hq => h q (List.mem_cons_of_mem _ hq)
theorem goalOf_in {cs ds : List Cell} {a : Nat} : ∀ {L : List (Nat × Nat)}, (∃ p ∈ L, p.1 ≤ a ∧ a < p.2) → ∃ p ∈ L, p.1 ≤ a ∧ a < p.2 ∧ goalOf cs ds a L = (match cs[a]? with
    | some c => (nthL ds c.hue ((List.range (p.2 - p.1)).map (p.1 + ·)) ((slice p.1 a cs).filter (isH c.hue)).length).getD p.2
    | none => a)
  | [], h => by obtain ⟨p, hp, _⟩ := h; exact absurd hp List.not_mem_nil
  | p :: L, h => by
    unfold goalOf
    by_cases z : p.1 ≤ a ∧ a < p.2
    · rw [if_pos z]
      exact ⟨p, List.mem_cons_self, z.1, z.2, rfl⟩
    · rw [if_neg z]
      obtain ⟨q, hq, k⟩ := h
      obtain ⟨r, hr, t⟩ := goalOf_in (cs := cs) (ds := ds) (L := L) ⟨q, by
        rcases List.mem_cons.mp hq with e | e
        · subst e; exact absurd k z
        · exact e, k⟩
      exact ⟨r, List.mem_cons_of_mem _ hr, t⟩
theorem Sch.goal_settle {cs ds : List Cell} (s : Sch cs ds) {a : Nat} {c : Cell} (hc : cs[a]? = some c) (k : c.isS = true) : goal cs ds a = a ∧ ds[a]? = some c := by
  refine ⟨goalOf_out fun p hp z => not_insAt hc k (((St_good cs).each p hp).2.2.2.2.2.2 a z.1 z.2), ?_⟩
  rw [s.out (not_insAt hc k), hc]
theorem Sch.goal_ins {cs ds : List Cell} (s : Sch cs ds) {a : Nat} {c : Cell} (hc : cs[a]? = some c) (k : c.isS = false) : ds[goal cs ds a]? = some c ∧ ((ds.take (goal cs ds a)).filter (isH c.hue)).length = ((cs.take a).filter (isH c.hue)).length := by
  obtain ⟨p, hp, a1, a2, e⟩ := goalOf_in (cs := cs) (ds := ds) (L := St cs) ((St_good cs).cov a (Nat.zero_le _) (List.getElem?_eq_some_iff.mp hc).1 ⟨c, hc, k⟩)
  unfold goal
  rw [e, hc]
  simp only
  have kc : isH c.hue c = true := by unfold isH; rw [k]; simp
  have e1 : slice p.1 p.2 cs = slice p.1 a cs ++ c :: slice (a + 1) p.2 cs := by
    unfold slice
    obtain ⟨u, hu⟩ : ∃ u, a = p.1 + u := ⟨a - p.1, by omega⟩
    obtain ⟨v, hv⟩ : ∃ v, p.2 = a + 1 + v := ⟨p.2 - a - 1, by omega⟩
    rw [show p.2 - p.1 = u + (v + 1) by omega, show a - p.1 = u by omega, show p.2 - (a + 1) = v by omega, List.take_add, List.drop_drop, ← hu]
    congr 1
    rw [List.drop_eq_getElem_cons (List.getElem?_eq_some_iff.mp hc).1, List.take_succ_cons, (List.getElem?_eq_some_iff.mp hc).2]
  have e2 : ((slice p.1 p.2 ds).filter (isH c.hue))[((slice p.1 a cs).filter (isH c.hue)).length]? = some c := by
    rw [s.part hp, e1, List.filter_append, List.filter_cons, kc, if_pos rfl, List.getElem?_append_right (Nat.le_refl _)]
    simp
  rw [show p.2 = p.1 + (p.2 - p.1) by omega] at e2
  obtain ⟨g, g1, g2, g3⟩ := nthL_is (p.2 - p.1) p.1 _ c e2
  rw [g1]
  refine ⟨g2, ?_⟩
  have := s.cut p.1 ((St_good cs).each p hp).2.2.2.1 c.hue
  rw [Option.getD_some, g3, this, take_slice (f := p.1) (e := a) a1, List.filter_append, List.length_append]
/-- with all cells kept, hue for hue -/
theorem Sch.own {cs ds : List Cell} (s : Sch cs ds) (h : Int) : ds.filter (isH h) = cs.filter (isH h) := by
  have := s.cut cs.length (fun z => by
    obtain ⟨c, hc, _⟩ := z.2.2.2
    have := (List.getElem?_eq_some_iff.mp hc).1
    omega) h
  rw [List.take_length, ← skel_length s.sk, List.take_length] at this
  exact this
/-! ## what is no schedule -/
theorem ord_length (cs : List Cell) : (ord cs).length = cs.length := (ord_perm cs).length_eq
theorem ord_count {cs ds : List Cell} (h : ord ds = ord cs) : ds.Perm cs := (ord_perm ds).symm.trans (h ▸ ord_perm cs)
theorem ord_longer {cs : List Cell} {x : Cell} : ord (cs ++ [x]) ≠ ord cs := fun h => by
  have := (ord_count h).length_eq
  simp at this
theorem ord_fresh {cs : List Cell} {a : Nat} {c x : Cell} (hc : cs[a]? = some c) (hx : x ≠ c) : ord (cs.take a ++ x :: cs.drop (a + 1)) ≠ ord cs := fun h => by
  have p := ord_count h
  have hl := (List.getElem?_eq_some_iff.mp hc).1
  have d : cs = cs.take a ++ c :: cs.drop (a + 1) := by
    rw [← (List.getElem?_eq_some_iff.mp hc).2, List.getElem_cons_drop, List.take_append_drop]
  rw [d] at p
  have t : (cs.take a).length = a := by rw [List.length_take]; omega
  rw [List.take_append_of_le_length (by omega), List.take_take, Nat.min_self] at p
  have e3 : (cs.take a ++ c :: cs.drop (a + 1)).drop (a + 1) = cs.drop (a + 1) := by rw [← d]
  rw [e3] at p
  have q := p.count_eq x
  rw [List.count_append, List.count_append, List.count_cons_self, List.count_cons_of_ne (by simpa using fun z => hx z.symm)] at q
  omega
/-! ## labels -/
theorem mem_labL_goal {len : Nat} : ∀ {cs : List Cell} {n : Nat} {k : Int}, k ∈ labL len n cs → (∃ c ∈ cs, c.isS = true ∧ c.goal = some k) ∨ ∃ m : Nat, k = m ∧ m < len
  | [], _, _, h => by simp [labL] at h
  | c :: cs, n, k, h => by
    unfold labL at h
    rcases List.mem_append.mp h with h | h
    · cases s : c.isS with
      | false => rw [s] at h; simp at h
      | true =>
        rw [s, if_pos rfl] at h
        rcases List.mem_append.mp h with h | h
        · unfold goalL at h
          cases g : c.goal with
          | none => rw [g] at h; simp at h
          | some a =>
            rw [g] at h
            simp at h
            exact .inl ⟨c, List.mem_cons_self, s, by rw [g, h]⟩
        · unfold nextL at h
          split at h
          · simp only [List.mem_singleton] at h
            exact .inr ⟨n + 1, h, by assumption⟩
          · simp at h
    · rcases mem_labL_goal h with ⟨d, hd, z⟩ | z
      · exact .inl ⟨d, List.mem_cons_of_mem _ hd, z⟩
      · exact .inr z
theorem labs_in {cs : List Cell} (h0 : 0 < cs.length) (hg : ∀ c ∈ cs, ∀ a, c.goal = some a → 0 ≤ a ∧ a < cs.length) {k : Int} (h : k ∈ labs cs) : 0 ≤ k ∧ k < cs.length := by
  unfold labs at h
  rcases List.mem_cons.mp h with e | e
  · subst e; omega
  · rcases mem_labL_goal e with ⟨c, hc, _, g⟩ | ⟨m, rfl, hm⟩
    · exact hg c hc k g
    · omega
theorem labL_length {len : Nat} : ∀ {cs : List Cell} {n : Nat}, (labL len n cs).length ≤ 2 * (cs.filter Cell.isS).length
  | [], _ => Nat.le_refl _
  | c :: cs, n => by
    have ih := labL_length (len := len) (cs := cs) (n := n + 1)
    unfold labL
    rw [List.length_append, List.filter_cons]
    cases s : c.isS with
    | false => rw [if_neg (by decide), if_neg (by decide)]; simpa using ih
    | true =>
      rw [if_pos rfl, if_pos rfl, List.length_append, List.length_cons]
      have a : (goalL c).length ≤ 1 := by unfold goalL; split <;> simp
      have b : (nextL len n).length ≤ 1 := by unfold nextL; split <;> simp
      omega
end K75


set_option Elab.async false
set_option linter.all false
set_option maxRecDepth 100000
set_option maxHeartbeats 8000000
namespace K75
open PySem PySem.Spec PyProof.Rows L2 ML
/-! # codes -/
structure Code where
  votes : List Int
  size : Int
  cells : List Cell
  bank : List Int
  deriving DecidableEq
def csW (cs : List Cell) : W := .tup (cs.map Cell.w)
def isW (is : List Int) : W := .tup (is.map W.int)
def Code.w (c : Code) : W := .tup [isW c.votes, .int c.size, csW c.cells, isW c.bank]
def vok : Int → List Int → Bool
  | _, [] => true
  | k, v :: vs => decide (k < 2 * v) && (decide (2 * v ≤ 2 * k) && vok (k + 1) vs)
def votesFit (vs : List Int) : Bool := decide ((1 : Int) ≤ vs.length) && (decide ((vs.length : Int) ≤ 5) && vok 1 vs)
theorem vok_cons {k v : Int} {vs : List Int} : vok k (v :: vs) = (decide (k < 2 * v) && (decide (2 * v ≤ 2 * k) && vok (k + 1) vs)) := rfl
theorem fAdd_int {i j : Int} {M : Mh} {R : MK} : fAdd (.int i) (.int j) M R = R (.int (i + j)) M := rfl
theorem cat_ok {a b : Addr} {xs ys : List W} {M : Mh} {R : MK} (ha : M a = some (.lst xs)) (hb : M b = some (.lst ys)) (hl : xs.length + ys.length ≤ 1000000) (k : ∀ p, M p = none → R (.ref p) (updM M p (.lst (xs ++ ys)))) : fAdd (.ref a) (.ref b) M R := by
  simp only [fAdd, ha, hb]
  exact ⟨by rw [sizeLine_eq]; omega, k⟩
theorem cat_tup {xs ys : List W} {M : Mh} {R : MK} (hl : xs.length + ys.length ≤ 1000000) (k : R (.tup (xs ++ ys)) M) : fAdd (.tup xs) (.tup ys) M R := ⟨by rw [sizeLine_eq]; omega, k⟩
theorem fEq_int {i j : Int} {M : Mh} {R : MK} : fEq (.int i) (.int j) M R = R (.bl (decide (i = j))) M := rfl
theorem fNe_int {i j : Int} {M : Mh} {R : MK} : fNe (.int i) (.int j) M R = R (.bl (!decide (i = j))) M := rfl
theorem fEq_str {i j : Str} {M : Mh} {R : MK} : fEq (.str i) (.str j) M R = R (.bl (decide (i = j))) M := rfl
theorem fNe_str {i j : Str} {M : Mh} {R : MK} : fNe (.str i) (.str j) M R = R (.bl (!decide (i = j))) M := rfl
theorem nn : ¬ (!true) = true := by decide
theorem lcL_mapA {α : Type} {G : Mh → Prop} {tg : Tg} {mt : MT} {me : ME} {e0 : MEnv} {F : List W → Mh → Prop} {M : Mh} (g f : α → W) (p : α → Bool) (gM : G M) : ∀ (l : List α) (acc : List W),
    (∀ x ∈ l, ∃ e1, bindT tg (g x) e0 = some e1 ∧ (∀ R, R (p x) M → mt noX e1 M R) ∧ (p x = true → ∀ R, R (f x) M → me noX e1 M R)) → F (acc ++ (l.filter p).map f) M → lcL G tg mt me e0 F (l.map g) acc M
  | [], acc, _, h => ⟨gM, by simpa using h⟩
  | x :: l, acc, hw, h => by
    obtain ⟨e1, eb, h1, h2⟩ := hw x List.mem_cons_self
    refine ⟨gM, ?_⟩
    rw [eb]
    refine h1 _ ?_
    cases hp : p x with
    | true =>
      rw [if_pos rfl]
      refine h2 hp _ ?_
      refine lcL_mapA g f p gM l (acc ++ [f x]) (fun y hy => hw y (List.mem_cons_of_mem _ hy)) ?_
      rw [List.filter_cons, hp] at h
      simpa using h
    | false =>
      rw [if_neg (by decide)]
      refine lcL_mapA g f p gM l acc (fun y hy => hw y (List.mem_cons_of_mem _ hy)) ?_
      rw [List.filter_cons, hp] at h
      simpa using h
theorem enumW_zip {α : Type} (g : α → W) (l : List α) (k : Nat) : enumW k (l.map g) = (l.zipIdx k).map fun x => .tup [.int (x.2 : Nat), g x.1] := by
  unfold enumW
  apply List.ext_getElem?
  intro i
  rw [List.getElem?_mapIdx, List.getElem?_map, List.getElem?_map, List.getElem?_zipIdx]
  cases l[i]? <;> simp
theorem enumW_inv {k : Int} {ws : List W} {i : Nat} {w : W} (h : (enumW k ws)[i]? = some w) : ∃ x, ws[i]? = some x ∧ w = .tup [.int (k + (i : Nat)), x] := by
  unfold enumW at h
  rw [List.getElem?_mapIdx] at h
  cases e : ws[i]? with
  | none => rw [e] at h; cases h
  | some x => rw [e] at h; exact ⟨x, rfl, by simpa using h.symm⟩
theorem map_inv {α : Type} {f : α → W} {l : List α} {i : Nat} {w : W} (h : (l.map f)[i]? = some w) : ∃ x, l[i]? = some x ∧ w = f x := by
  rw [List.getElem?_map] at h
  cases e : l[i]? with
  | none => rw [e] at h; cases h
  | some x => rw [e] at h; exact ⟨x, rfl, by simpa using h.symm⟩
theorem drop_at {α : Type} {l : List α} {i : Nat} {x : α} (h : l[i]? = some x) : l.drop i = x :: l.drop (i + 1) := by
  have h1 := (List.getElem?_eq_some_iff.mp h).1
  rw [List.drop_eq_getElem_cons h1, (List.getElem?_eq_some_iff.mp h).2]
section
variable {q : Ads} {RX : MX} {M : Mh} {R : MK}
theorem L_votes {vs : List Int} (k : R (.bl (votesFit vs)) M) : sp_is_votes q RX [isW vs] M R := by
  rw [un_is_votes]
  simp only [mDef, mSeq, mIfS, mVal, mNot, mAnd, mOr, mAndV, mOrV, mNotV, mIf, mOp, mChain, mVar, mC, mTup, mLst, mArgs, mCall, mFn, mDGet, mAsg, mRet, mNext, mRaise, mDrop, mIsi, bindT, setAll, startM, List.map_cons, List.map_nil, List.length_cons, List.length_nil, List.replicate, List.cons_append, List.nil_append, List.getElem?_cons_zero, List.getElem?_cons_succ, List.set_cons_succ, List.set_cons_zero, Nat.zero_add, Nat.reduceAdd, Nat.reduceSub, fII, fIIc, fLt, fLe, fGt, fGe, fSub, fMul, fDiv, fMod, fPow, fAdd_int, fLen, items, if_true, fEq_int, fNe_int, fEq_str, fNe_str, List.length_map, mFor, miEnum, miSeq, miRg1, miRg2, mLc, wipeM, mYes, mIsN, mNotN, mMeth, mNeg, mSl, mPart, fSl, fTuple, fList, mBrk, fI1, fI2, isW, tyW, isT]
  refine iteN (by decide) ?_
  by_cases h1 : (1 : Int) ≤ vs.length
  · rw [decide_eq_true h1]
    refine iteY rfl ?_
    by_cases h5 : (vs.length : Int) ≤ 5
    · rw [decide_eq_true h5]
      refine iteN (by decide) ?_
      refine forL_ind (fun n e M' => M = M' ∧ (∃ a b, e = [some (.tup (vs.map W.int)), a, b]) ∧ vok 1 vs = vok (1 + (n : Int)) (vs.drop n)) _ 0 _ _ ⟨rfl, ⟨none, none, rfl⟩, rfl⟩ ?_ ?_
      · rintro i w e M' kk hw ⟨rfl, ⟨a, b, rfl⟩, hv⟩ hk
        obtain ⟨x, hx, rfl⟩ := enumW_inv hw
        obtain ⟨v, hv2, rfl⟩ := map_inv hx
        refine ⟨trivial, _, rfl, ?_⟩
        rw [Nat.zero_add, drop_at hv2, vok_cons] at hv
        simp only [mDef, mSeq, mIfS, mVal, mNot, mAnd, mOr, mAndV, mOrV, mNotV, mIf, mOp, mChain, mVar, mC, mTup, mLst, mArgs, mCall, mFn, mDGet, mAsg, mRet, mNext, mRaise, mDrop, mIsi, bindT, setAll, startM, List.map_cons, List.map_nil, List.length_cons, List.length_nil, List.replicate, List.cons_append, List.nil_append, List.getElem?_cons_zero, List.getElem?_cons_succ, List.set_cons_succ, List.set_cons_zero, Nat.zero_add, Nat.reduceAdd, Nat.reduceSub, fII, fIIc, fLt, fLe, fGt, fGe, fSub, fMul, fDiv, fMod, fPow, fAdd_int, fLen, items, if_true, fEq_int, fNe_int, fEq_str, fNe_str, List.length_map, mFor, miEnum, miSeq, miRg1, miRg2, mLc, wipeM, mYes, mIsN, mNotN, mMeth, mNeg, mSl, mPart, fSl, fTuple, fList, mBrk, fI1, fI2]
        refine L_is_whole rfl (iteN nn ⟨.inl ⟨by decide, by decide⟩, ?_⟩)
        by_cases h2 : 1 + (i : Int) < 2 * v
        · rw [decide_eq_true h2] at hv ⊢
          refine iteY rfl ⟨.inl ⟨by decide, by decide⟩, ?_⟩
          by_cases h3 : 2 * v ≤ 2 * (1 + (i : Int))
          · rw [decide_eq_true h3] at hv ⊢
            refine iteN (by decide) (hk _ _ ⟨rfl, ⟨_, _, rfl⟩, ?_⟩)
            rw [hv, Nat.zero_add]
            simp only [Bool.true_and]
            congr 1
          · rw [decide_eq_false h3] at hv ⊢
            refine iteY (by decide) (fg_of ?_)
            have : votesFit vs = false := by unfold votesFit; rw [hv]; simp
            rw [this] at k
            exact k
        · rw [decide_eq_false h2] at hv ⊢
          refine iteN (by decide) (iteY (by decide) (fg_of ?_))
          have : votesFit vs = false := by unfold votesFit; rw [hv]; simp
          rw [this] at k
          exact k
      · rintro e M' ⟨rfl, ⟨a, b, rfl⟩, hv⟩
        refine ⟨trivial, fg_of ?_⟩
        have : vs.drop (0 + (enumW 1 (vs.map W.int)).length) = [] := by
          rw [enumW_length, List.length_map, Nat.zero_add, List.drop_length]
        rw [this] at hv
        have : votesFit vs = true := by unfold votesFit; rw [hv, decide_eq_true h1, decide_eq_true h5]; rfl
        rw [this] at k
        exact k
    · rw [decide_eq_false h5]
      refine iteY (by decide) (fg_of ?_)
      have : votesFit vs = false := by unfold votesFit; rw [decide_eq_false h5]; simp
      rw [this] at k
      exact k
  · rw [decide_eq_false h1]
    refine iteN (by decide) (iteY (by decide) (fg_of ?_))
    have : votesFit vs = false := by unfold votesFit; rw [decide_eq_false h1]; simp
    rw [this] at k
    exact k
def Code.hues (c : Code) : Int := c.votes.length
def Code.many (c : Code) : Int := c.cells.length
def Code.fits (c : Code) (x : Cell) : Bool := x.fit c.hues c.size c.many c.bank.length
def Code.fit (c : Code) : Bool := votesFit c.votes && (bt 2 c.size 10000 && (decide ((c.bank.length : Int) ≤ 600) && (c.bank.all (fun i => bt 0 i (c.size - 1)) && (decide ((1 : Int) ≤ c.many) && (decide (c.many ≤ 4000) && c.cells.all c.fits)))))
theorem cell_pl (x : Cell) : pl x.w = true := by
  cases x with
  | ins h i => cases i with
    | set b n => show (pl _ && _) = true; simp only [pl, pls]; decide +kernel
    | two w b c d => cases w <;> (show (pl _ && _) = true; simp only [pl, pls]; decide +kernel)
    | bnk w b c s l => cases w <;> (show (pl _ && _) = true; simp only [pl, pls]; decide +kernel)
    | off r => show (pl _ && _) = true; simp only [pl, pls]; decide +kernel
  | thr w a n => cases w <;> (show (pl _ && _) = true; simp only [pl, pls]; decide +kernel)
  | goto a => show (pl _ && _) = true; simp only [pl, pls]; decide +kernel
  | one w => cases w <;> (show (pl _ && _) = true; simp only [pl, pls]; decide +kernel)
theorem dp_ones {l : List W} (h : ∀ w ∈ l, dpW w = 0) : dpWs l = 0 := Nat.le_zero.mp (dps_le fun w hw => Nat.le_of_eq (h w hw))
theorem cell_dp (x : Cell) : dpW x.w ≤ 1 := by
  cases x with
  | ins h i => cases i <;> simp [Cell.w, Ins.ws, dpW, dpWs]
  | thr w a n => simp [Cell.w, dpW, dpWs]
  | goto a => simp [Cell.w, dpW, dpWs]
  | one w => simp [Cell.w, dpW, dpWs]
theorem ok_cells {cs : List Cell} : ∀ w ∈ cs.map Cell.w, Ok w := fun w hw => by
  obtain ⟨x, _, rfl⟩ := List.mem_map.mp hw
  exact ⟨cell_pl x, Nat.le_trans (cell_dp x) (by decide)⟩
theorem L_is_code {c : Code} (hb : c.bank.length ≤ 1000) (hc : c.cells.length ≤ 1000) (k : R (.bl c.fit) M) : sp_is_code q RX [c.w] M R := by
  have kf : c.fit = false → R (.bl false) M := fun e => e ▸ k
  rw [un_is_code]
  simp only [mDef, mSeq, mIfS, mVal, mNot, mAnd, mOr, mAndV, mOrV, mNotV, mIf, mOp, mChain, mVar, mC, mTup, mLst, mArgs, mCall, mFn, mDGet, mAsg, mRet, mNext, mRaise, mDrop, mIsi, bindT, setAll, startM, List.map_cons, List.map_nil, List.length_cons, List.length_nil, List.replicate, List.cons_append, List.nil_append, List.getElem?_cons_zero, List.getElem?_cons_succ, List.set_cons_succ, List.set_cons_zero, Nat.zero_add, Nat.reduceAdd, Nat.reduceSub, fII, fIIc, fLt, fLe, fGt, fGe, fSub, fMul, fDiv, fMod, fPow, fAdd_int, fLen, items, if_true, fEq_int, fNe_int, fEq_str, fNe_str, List.length_map, mFor, miEnum, miSeq, miRg1, miRg2, mLc, wipeM, mYes, mIsN, mNotN, mMeth, mNeg, mSl, mPart, fSl, fTuple, fList, mBrk, fI1, fI2, Code.w, tyW, isT, fIx, at0]
  refine iteN (by decide) (iteN (by decide) (L_votes ?_))
  cases hv : votesFit c.votes with
  | false => exact iteY (by decide) (fg_of (kf (by unfold Code.fit; rw [hv]; rfl)))
  | true =>
  refine iteN (by decide) (L_is_from rfl ?_)
  rw [show fromB (.int c.size) 2 10000 = bt 2 c.size 10000 from rfl]
  cases hs : bt 2 c.size 10000 with
  | false => exact iteY (by decide) (fg_of (kf (by unfold Code.fit; rw [hv, hs]; rfl)))
  | true =>
  refine iteN (by decide) ?_
  simp only [isW, tyW, items, List.length_map]
  refine iteN (by decide) ?_
  by_cases h6 : (600 : Int) < c.bank.length
  · rw [decide_eq_true h6]
    exact iteY rfl (fg_of (kf (by unfold Code.fit; rw [hv, hs, decide_eq_false (by omega)]; rfl)))
  rw [decide_eq_false h6]
  have h6' : decide ((c.bank.length : Int) ≤ 600) = true := decide_eq_true (by omega)
  refine iteN (by decide) ⟨by rw [sizeLine_eq]; omega, lcL_map id (fun w => !fromB w 0 (c.size - 1)) trivial _ _ (fun w h => ?_) ?_⟩
  · obtain ⟨i, _, rfl⟩ := List.mem_map.mp h
    refine ⟨_, rfl, fun R hR => ?_, fun _ R hR => ?_⟩
    · simp only [mDef, mSeq, mIfS, mVal, mNot, mAnd, mOr, mAndV, mOrV, mNotV, mIf, mOp, mChain, mVar, mC, mTup, mLst, mArgs, mCall, mFn, mDGet, mAsg, mRet, mNext, mRaise, mDrop, mIsi, bindT, setAll, startM, List.map_cons, List.map_nil, List.length_cons, List.length_nil, List.replicate, List.cons_append, List.nil_append, List.getElem?_cons_zero, List.getElem?_cons_succ, List.set_cons_succ, List.set_cons_zero, Nat.zero_add, Nat.reduceAdd, Nat.reduceSub, fII, fIIc, fLt, fLe, fGt, fGe, fSub, fMul, fDiv, fMod, fPow, fAdd_int, fLen, items, if_true, fEq_int, fNe_int, fEq_str, fNe_str, List.length_map, mFor, miEnum, miSeq, miRg1, miRg2, mLc, wipeM, mYes, mIsN, mNotN, mMeth, mNeg, mSl, mPart, fSl, fTuple, fList, mBrk, fI1, fI2]
      exact L_is_from rfl hR
    · simp only [mDef, mSeq, mIfS, mVal, mNot, mAnd, mOr, mAndV, mOrV, mNotV, mIf, mOp, mChain, mVar, mC, mTup, mLst, mArgs, mCall, mFn, mDGet, mAsg, mRet, mNext, mRaise, mDrop, mIsi, bindT, setAll, startM, List.map_cons, List.map_nil, List.length_cons, List.length_nil, List.replicate, List.cons_append, List.nil_append, List.getElem?_cons_zero, List.getElem?_cons_succ, List.set_cons_succ, List.set_cons_zero, Nat.zero_add, Nat.reduceAdd, Nat.reduceSub, fII, fIIc, fLt, fLe, fGt, fGe, fSub, fMul, fDiv, fMod, fPow, fAdd_int, fLen, items, if_true, fEq_int, fNe_int, fEq_str, fNe_str, List.length_map, mFor, miEnum, miSeq, miRg1, miRg2, mLc, wipeM, mYes, mIsN, mNotN, mMeth, mNeg, mSl, mPart, fSl, fTuple, fList, mBrk, fI1, fI2]
      exact hR
  rw [List.nil_append, List.map_id]
  intro p hp r hr
  have pr : p ≠ r := fun z => by subst z; rw [updM_same] at hr; cases hr
  refine fNe_lst (xs := (c.bank.map W.int).filter fun w => !fromB w 0 (c.size - 1)) (ys := []) (by rw [updM_ne pr, updM_same]) updM_same (fun w h => pl_ints w (List.mem_filter.mp h).1) (by simp) (fun w h => dp_ints w (List.mem_filter.mp h).1) (by simp) fun b0 hb0 => ?_
  have s1 : Sub M (updM (updM M p (.lst ((c.bank.map W.int).filter fun w => !fromB w 0 (c.size - 1)))) r (.lst [])) := (sub_new hp).trans (sub_new hr)
  revert s1 hr
  generalize updM (updM M p (.lst ((c.bank.map W.int).filter fun w => !fromB w 0 (c.size - 1)))) r (.lst []) = M2
  intro _ s1
  have eb : b0 = !(c.bank.all fun i => bt 0 i (c.size - 1)) := by
    rw [Bool.eq_iff_iff, hb0, ne_eq, List.filter_eq_nil_iff]
    rw [Bool.not_eq_true', ← Bool.not_eq_true, List.all_eq_true]
    refine not_congr ⟨fun h x hx => ?_, fun h w hw => ?_⟩
    · have := h _ (List.mem_map.mpr ⟨x, hx, rfl⟩)
      simpa [fromB, bt] using this
    · obtain ⟨x, hx, rfl⟩ := List.mem_map.mp hw
      have := h x hx
      simpa [fromB, bt] using this
  rw [eb]
  cases ha : c.bank.all fun i => bt 0 i (c.size - 1) with
  | false => exact iteY (by decide) ⟨M, s1, kf (by unfold Code.fit; rw [hv, hs, h6', ha]; rfl)⟩
  | true =>
  refine iteN (by decide) ?_
  simp only [mDef, mSeq, mIfS, mVal, mNot, mAnd, mOr, mAndV, mOrV, mNotV, mIf, mOp, mChain, mVar, mC, mTup, mLst, mArgs, mCall, mFn, mDGet, mAsg, mRet, mNext, mRaise, mDrop, mIsi, bindT, setAll, startM, List.map_cons, List.map_nil, List.length_cons, List.length_nil, List.replicate, List.cons_append, List.nil_append, List.getElem?_cons_zero, List.getElem?_cons_succ, List.set_cons_succ, List.set_cons_zero, Nat.zero_add, Nat.reduceAdd, Nat.reduceSub, fII, fIIc, fLt, fLe, fGt, fGe, fSub, fMul, fDiv, fMod, fPow, fAdd_int, fLen, items, if_true, fEq_int, fNe_int, fEq_str, fNe_str, List.length_map, mFor, miEnum, miSeq, miRg1, miRg2, mLc, wipeM, mYes, mIsN, mNotN, mMeth, mNeg, mSl, mPart, fSl, fTuple, fList, mBrk, fI1, fI2, csW, tyW, isT]
  refine iteN (by decide) ?_
  have em : c.many = (c.cells.length : Int) := rfl
  by_cases h1 : (1 : Int) ≤ c.cells.length
  · rw [decide_eq_true h1]
    refine iteY rfl ?_
    by_cases h4 : (c.cells.length : Int) ≤ 4000
    · rw [decide_eq_true h4]
      refine iteN (by decide) ⟨by rw [sizeLine_eq]; omega, lcL_mapA Cell.w Cell.w (fun x => !c.fits x) trivial _ _ (fun x h => ?_) ?_⟩
      · refine ⟨_, rfl, fun R hR => ?_, fun _ R hR => ?_⟩
        · simp only [mDef, mSeq, mIfS, mVal, mNot, mAnd, mOr, mAndV, mOrV, mNotV, mIf, mOp, mChain, mVar, mC, mTup, mLst, mArgs, mCall, mFn, mDGet, mAsg, mRet, mNext, mRaise, mDrop, mIsi, bindT, setAll, startM, List.map_cons, List.map_nil, List.length_cons, List.length_nil, List.replicate, List.cons_append, List.nil_append, List.getElem?_cons_zero, List.getElem?_cons_succ, List.set_cons_succ, List.set_cons_zero, Nat.zero_add, Nat.reduceAdd, Nat.reduceSub, fII, fIIc, fLt, fLe, fGt, fGe, fSub, fMul, fDiv, fMod, fPow, fAdd_int, fLen, items, if_true, fEq_int, fNe_int, fEq_str, fNe_str, List.length_map, mFor, miEnum, miSeq, miRg1, miRg2, mLc, wipeM, mYes, mIsN, mNotN, mMeth, mNeg, mSl, mPart, fSl, fTuple, fList, mBrk, fI1, fI2]
          exact L_cell hR
        · simp only [mDef, mSeq, mIfS, mVal, mNot, mAnd, mOr, mAndV, mOrV, mNotV, mIf, mOp, mChain, mVar, mC, mTup, mLst, mArgs, mCall, mFn, mDGet, mAsg, mRet, mNext, mRaise, mDrop, mIsi, bindT, setAll, startM, List.map_cons, List.map_nil, List.length_cons, List.length_nil, List.replicate, List.cons_append, List.nil_append, List.getElem?_cons_zero, List.getElem?_cons_succ, List.set_cons_succ, List.set_cons_zero, Nat.zero_add, Nat.reduceAdd, Nat.reduceSub, fII, fIIc, fLt, fLe, fGt, fGe, fSub, fMul, fDiv, fMod, fPow, fAdd_int, fLen, items, if_true, fEq_int, fNe_int, fEq_str, fNe_str, List.length_map, mFor, miEnum, miSeq, miRg1, miRg2, mLc, wipeM, mYes, mIsN, mNotN, mMeth, mNeg, mSl, mPart, fSl, fTuple, fList, mBrk, fI1, fI2]
          exact hR
      rw [List.nil_append]
      intro p2 hp2 r2 hr2
      have pr2 : p2 ≠ r2 := fun z => by subst z; rw [updM_same] at hr2; cases hr2
      refine fEq_lst (xs := (c.cells.filter fun x => !c.fits x).map Cell.w) (ys := []) (by rw [updM_ne pr2, updM_same]) updM_same (fun w h => (ok_cells w h).1) (by simp) (fun w h => (ok_cells w h).2) (by simp) fun b2 hb2 => ?_
      refine ⟨M, (s1.trans (sub_new hp2)).trans (sub_new hr2), ?_⟩
      have e2 : b2 = c.fit := by
        rw [Bool.eq_iff_iff, hb2, List.map_eq_nil_iff, List.filter_eq_nil_iff]
        unfold Code.fit
        rw [hv, hs, h6', ha, em, decide_eq_true h1, decide_eq_true h4]
        simp only [Bool.true_and, List.all_eq_true, Bool.not_eq_true', Bool.not_eq_false]
      rw [e2]
      exact k
    · rw [decide_eq_false h4]
      exact iteY (by decide) ⟨M, s1, kf (by unfold Code.fit; rw [hv, hs, h6', ha, em, decide_eq_true h1, decide_eq_false h4]; rfl)⟩
  · rw [decide_eq_false h1]
    exact iteN (by decide) (iteY (by decide) ⟨M, s1, kf (by unfold Code.fit; rw [hv, hs, h6', ha, em, decide_eq_false h1]; rfl)⟩)
end
end K75


set_option Elab.async false
set_option linter.all false
set_option maxRecDepth 100000
set_option maxHeartbeats 8000000
namespace K75
open PySem PySem.Spec PyProof.Rows L2 ML
/-! # what is no code; labels -/
def NoC (M : Mh) (v : W) : Prop := v = .non ∨ v = .int 5 ∨ (∃ a b c, v = .tup [a, b, c]) ∨ ∃ p xs, v = .ref p ∧ M p = some (.lst xs)
structure Cd (c : Code) : Prop where
  fit : c.fit = true
  len : c.cells.length ≤ 400
  st : (c.cells.filter Cell.isS).length ≤ 25
theorem Cd.parts {c : Code} (h : Cd c) : votesFit c.votes = true ∧ bt 2 c.size 10000 = true ∧ (c.bank.length : Int) ≤ 600 ∧ (∀ i ∈ c.bank, bt 0 i (c.size - 1) = true) ∧ (1 : Int) ≤ c.cells.length ∧ ∀ x ∈ c.cells, c.fits x = true := by
  have := h.fit
  unfold Code.fit at this
  simp only [Bool.and_eq_true, decide_eq_true_eq, List.all_eq_true] at this
  obtain ⟨a, b, d, e, f, g, i⟩ := this
  exact ⟨a, b, d, e, f, i⟩
theorem Cd.bank {c : Code} (h : Cd c) : c.bank.length ≤ 600 := by
  have := h.parts.2.2.1
  omega
theorem Cd.pos {c : Code} (h : Cd c) : 0 < c.cells.length := by
  have := h.parts.2.2.2.2.1
  omega
def Cell.hd : Cell → W
  | .ins h _ => .int h
  | .thr w _ _ => .str w.nm
  | .goto _ => .str "goto"
  | .one w => .str w.nm
theorem fIx0 {x : Cell} {M : Mh} {R : MK} : fIx x.w (.int 0) M R = R x.hd M := by
  cases x <;> simp only [fIx, Cell.w, items, at0] <;> rfl
theorem tyW_hd {x : Cell} {M : Mh} : tyW M x.hd = some (if x.isS = true then .str else .int) := by
  cases x <;> rfl
theorem hd_pl (x : Cell) : pl x.hd = true := by
  cases x with
  | ins h i => rfl
  | thr w a n => cases w <;> (unfold Cell.hd pl; decide +kernel)
  | goto a => unfold Cell.hd pl; decide +kernel
  | one w => cases w <;> (unfold Cell.hd pl; decide +kernel)
theorem hd_dp (x : Cell) : dpW x.hd = 0 := by cases x <;> rfl
theorem fIx_map {α : Type} {g : α → W} {l : List α} {i : Nat} {x : α} {M : Mh} {R : MK} (h : l[i]? = some x) : fIx (.tup (l.map g)) (.int i) M R = R (g x) M := by
  have : (l.map g)[i]? = some (g x) := by rw [List.getElem?_map, h]; rfl
  simp only [fIx, items, at_nat this]
theorem fIx_lst {α : Type} {g : α → W} {l : List α} {i : Nat} {x : α} {p : Addr} {M : Mh} {R : MK} (hp : M p = some (.lst (l.map g))) (h : l[i]? = some x) : fIx (.ref p) (.int i) M R = R (g x) M := by
  have : (l.map g)[i]? = some (g x) := by rw [List.getElem?_map, h]; rfl
  simp only [fIx, items, hp, at_nat this]
theorem fg_new {M M2 : Mh} {p : Addr} {o : MO} {R : MK} (s : Sub M M2) (hp : M2 p = none) (k : ∀ p, M p = none → R (.ref p) (updM M p o)) : fg R (.ref p) (updM M2 p o) := ⟨updM M p o, s.upd, k p (s.free hp)⟩
theorem fg_sub {M M2 : Mh} {w : W} {R : MK} (s : Sub M M2) (k : R w M) : fg R w M2 := ⟨M, s, k⟩
/-- keys of a dict -/
def DK (d : List (Key × W)) (ks : List Int) : Prop := d.map (·.1) = ks.map Sum.inl
theorem DK.ints : ∀ {d : List (Key × W)} {ks : List Int}, DK d ks → intKeys d = some ks
  | [], [], _ => rfl
  | [], _ :: _, h => by cases h
  | _ :: _, [], h => by cases h
  | (k, w) :: d, i :: ks, h => by
    unfold DK at h
    simp only [List.map_cons, List.cons.injEq] at h
    obtain ⟨h1, h2⟩ := h
    subst h1
    unfold intKeys
    rw [DK.ints (d := d) (ks := ks) h2]
    rfl
theorem DK.get {i : Int} : ∀ {d : List (Key × W)} {ks : List Int}, DK d ks → (getW d (.inl i)).isSome = decide (i ∈ ks)
  | [], [], _ => rfl
  | [], _ :: _, h => by cases h
  | _ :: _, [], h => by cases h
  | (k, w) :: d, j :: ks, h => by
    unfold DK at h
    simp only [List.map_cons, List.cons.injEq] at h
    obtain ⟨h1, h2⟩ := h
    subst h1
    have ih := DK.get (i := i) (d := d) (ks := ks) h2
    unfold getW at ih ⊢
    rw [List.find?_cons]
    by_cases z : j = i
    · subst z
      simp
    · have : decide ((Sum.inl j : Key) = .inl i) = false := by simp [z]
      simp only [this]
      rw [ih]
      have : ¬ i = j := fun e => z e.symm
      simp [this]
theorem DK.any {i : Int} {d : List (Key × W)} {ks : List Int} (h : DK d ks) : (d.any fun kv => decide (kv.1 = (.inl i : Key))) = decide (i ∈ ks) := by
  have : (d.any fun kv => decide (kv.1 = (.inl i : Key))) = (d.map (·.1)).any fun k => decide (k = (.inl i : Key)) := by rw [List.any_map]; rfl
  rw [this, h, List.any_map, Bool.eq_iff_iff, List.any_eq_true]
  simp
theorem DK.put {i : Int} {v : W} {d : List (Key × W)} {ks : List Int} (h : DK d ks) : DK (putW d (.inl i) v) (if i ∈ ks then ks else ks ++ [i]) := by
  unfold putW
  rw [h.any]
  by_cases z : i ∈ ks
  · rw [decide_eq_true z, if_pos rfl, if_pos z]
    unfold DK at h ⊢
    rw [← h, List.map_map]
    apply List.map_congr_left
    intro kv _
    simp only [Function.comp]
    split <;> rfl
  · rw [decide_eq_false z, if_neg (by decide), if_neg z]
    unfold DK at h ⊢
    rw [List.map_append, List.map_append, h]
    rfl
theorem DK.len {d : List (Key × W)} {ks : List Int} (h : DK d ks) : d.length = ks.length := by
  have := congrArg List.length h
  simpa using this
theorem labL_cons {len n : Nat} {c : Cell} {cs : List Cell} : labL len n (c :: cs) = (if c.isS = true then goalL c ++ nextL len n else []) ++ labL len (n + 1) cs := rfl
theorem labL_append {len : Nat} : ∀ (xs ys : List Cell) (n : Nat), labL len n (xs ++ ys) = labL len n xs ++ labL len (n + xs.length) ys
  | [], ys, n => rfl
  | x :: xs, ys, n => by
    rw [List.cons_append, labL_cons, labL_cons, labL_append xs ys (n + 1), List.append_assoc, List.length_cons, Nat.add_right_comm, Nat.add_assoc]
def stepL (len n : Nat) (c : Cell) : List Int := if c.isS = true then goalL c ++ nextL len n else []
/-- the labels of the first n cells -/
def labT (cs : List Cell) (n : Nat) : List Int := 0 :: labL cs.length 0 (cs.take n)
theorem labT_succ {cs : List Cell} {n : Nat} {c : Cell} (h : cs[n]? = some c) : labT cs (n + 1) = labT cs n ++ stepL cs.length n c := by
  unfold labT
  have hn := (List.getElem?_eq_some_iff.mp h).1
  rw [List.take_succ, h, labL_append, List.length_take, Nat.min_eq_left (Nat.le_of_lt hn), Nat.zero_add, List.cons_append]
  congr 2
  show (if c.isS = true then goalL c ++ nextL cs.length n else []) ++ [] = _
  rw [List.append_nil]
  rfl
theorem labT_all (cs : List Cell) : labT cs cs.length = labs cs := by
  unfold labT labs
  rw [List.take_length]
def addK (ks : List Int) (i : Int) : List Int := if i ∈ ks then ks else ks ++ [i]
structure KS (ks L : List Int) : Prop where
  nd : ks.Nodup
  mem : ∀ i, i ∈ ks ↔ i ∈ L
  len : ks.length ≤ L.length
theorem KS.add {ks L : List Int} (h : KS ks L) (i : Int) : KS (addK ks i) (L ++ [i]) := by
  unfold addK
  by_cases z : i ∈ ks
  · rw [if_pos z]
    refine ⟨h.nd, fun j => ?_, by rw [List.length_append]; have := h.len; omega⟩
    rw [List.mem_append, List.mem_singleton, h.mem]
    exact ⟨.inl, fun e => e.elim id fun e => by rw [e, ← h.mem]; exact z⟩
  · rw [if_neg z]
    refine ⟨?_, fun j => by rw [List.mem_append, List.mem_append, h.mem], by rw [List.length_append, List.length_append]; have := h.len; simp only [List.length_singleton]; omega⟩
    rw [List.nodup_append]
    exact ⟨h.nd, by simp, fun a ha b hb => by rw [List.mem_singleton] at hb; subst hb; exact fun e => z (e ▸ ha)⟩
theorem labT_length (cs : List Cell) (n : Nat) : (labT cs n).length ≤ 1 + 2 * (cs.filter Cell.isS).length := by
  unfold labT
  rw [List.length_cons]
  have h1 := labL_length (len := cs.length) (cs := cs.take n) (n := 0)
  have h2 : ((cs.take n).filter Cell.isS).length ≤ (cs.filter Cell.isS).length := ((List.take_sublist n cs).filter _).length_le
  omega
/-- sorted, without doubles: known by what is in it -/
theorem strict_unique : ∀ {xs ys : List Int}, xs.Pairwise (· < ·) → ys.Pairwise (· < ·) → (∀ k, k ∈ xs ↔ k ∈ ys) → xs = ys
  | [], [], _, _, _ => rfl
  | [], y :: ys, _, _, h => absurd ((h y).mpr List.mem_cons_self) List.not_mem_nil
  | x :: xs, [], _, _, h => absurd ((h x).mp List.mem_cons_self) List.not_mem_nil
  | x :: xs, y :: ys, p, q, h => by
    rw [List.pairwise_cons] at p q
    have e : x = y := by
      rcases List.mem_cons.mp ((h x).mp List.mem_cons_self) with e | e
      · exact e
      · rcases List.mem_cons.mp ((h y).mpr List.mem_cons_self) with e2 | e2
        · exact e2.symm
        · have := p.1 y e2
          have := q.1 x e
          omega
    subst e
    rw [strict_unique p.2 q.2 fun k => ⟨fun hk => ?_, fun hk => ?_⟩]
    · rcases List.mem_cons.mp ((h k).mp (List.mem_cons_of_mem _ hk)) with e | e
      · have := p.1 k hk
        omega
      · exact e
    · rcases List.mem_cons.mp ((h k).mpr (List.mem_cons_of_mem _ hk)) with e | e
      · have := q.1 k hk
        omega
      · exact e
def labF (cs : List Cell) : List Nat := (List.range cs.length).filter (lab cs)
theorem labF_is {cs : List Cell} {ys ks : List Int} (hp : ys.Perm ks) (hs : ys.Pairwise (· ≤ ·)) (h : KS ks (labs cs)) (hr : ∀ k ∈ labs cs, 0 ≤ k ∧ k < cs.length) : ys = (labF cs).map fun n : Nat => (n : Int) := by
  refine strict_unique ?_ ?_ fun k => ?_
  · have nd : ys.Nodup := hp.symm.nodup h.nd
    exact (List.pairwise_and_iff.mpr ⟨hs, nd⟩).imp fun ⟨a, b⟩ => by omega
  · unfold labF
    rw [List.pairwise_map]
    exact (List.pairwise_lt_range.filter _).imp fun h => by omega
  · rw [hp.mem_iff, h.mem, List.mem_map]
    unfold labF
    constructor
    · intro hk
      obtain ⟨a, b⟩ := hr k hk
      refine ⟨k.toNat, List.mem_filter.mpr ⟨List.mem_range.mpr (by omega), ?_⟩, by omega⟩
      unfold lab
      rw [Int.toNat_of_nonneg a]
      exact decide_eq_true hk
    · rintro ⟨n, hn, rfl⟩
      have := (List.mem_filter.mp hn).2
      unfold lab at this
      exact of_decide_eq_true this
section
variable {q : Ads} {RX : MX} {M : Mh} {R : MK}
theorem L_no_code {v : W} (h : NoC M v) (k : R (.bl false) M) : sp_is_code q RX [v] M R := by
  rw [un_is_code]
  rcases h with rfl | rfl | ⟨a, b, c, rfl⟩ | ⟨p, xs, rfl, hp⟩
  · simp only [mDef, mSeq, mIfS, mVal, mNot, mAnd, mOr, mAndV, mOrV, mNotV, mIf, mOp, mChain, mVar, mC, mTup, mLst, mArgs, mCall, mFn, mDGet, mAsg, mRet, mNext, mRaise, mDrop, mIsi, bindT, setAll, startM, List.map_cons, List.map_nil, List.length_cons, List.length_nil, List.replicate, List.cons_append, List.nil_append, List.getElem?_cons_zero, List.getElem?_cons_succ, List.set_cons_succ, List.set_cons_zero, Nat.zero_add, Nat.reduceAdd, Nat.reduceSub, fII, fIIc, fLt, fLe, fGt, fGe, fSub, fMul, fDiv, fMod, fPow, fAdd_int, fLen, items, if_true, fEq_int, fNe_int, fEq_str, fNe_str, List.length_map, mFor, miEnum, miSeq, miRg1, miRg2, mLc, wipeM, mYes, mIsN, mNotN, mMeth, mNeg, mSl, mPart, fSl, fTuple, fList, mBrk, fI1, fI2, tyW, isT]
    exact iteY (by decide) (fg_of k)
  · simp only [mDef, mSeq, mIfS, mVal, mNot, mAnd, mOr, mAndV, mOrV, mNotV, mIf, mOp, mChain, mVar, mC, mTup, mLst, mArgs, mCall, mFn, mDGet, mAsg, mRet, mNext, mRaise, mDrop, mIsi, bindT, setAll, startM, List.map_cons, List.map_nil, List.length_cons, List.length_nil, List.replicate, List.cons_append, List.nil_append, List.getElem?_cons_zero, List.getElem?_cons_succ, List.set_cons_succ, List.set_cons_zero, Nat.zero_add, Nat.reduceAdd, Nat.reduceSub, fII, fIIc, fLt, fLe, fGt, fGe, fSub, fMul, fDiv, fMod, fPow, fAdd_int, fLen, items, if_true, fEq_int, fNe_int, fEq_str, fNe_str, List.length_map, mFor, miEnum, miSeq, miRg1, miRg2, mLc, wipeM, mYes, mIsN, mNotN, mMeth, mNeg, mSl, mPart, fSl, fTuple, fList, mBrk, fI1, fI2, tyW, isT]
    exact iteY (by decide) (fg_of k)
  · simp only [mDef, mSeq, mIfS, mVal, mNot, mAnd, mOr, mAndV, mOrV, mNotV, mIf, mOp, mChain, mVar, mC, mTup, mLst, mArgs, mCall, mFn, mDGet, mAsg, mRet, mNext, mRaise, mDrop, mIsi, bindT, setAll, startM, List.map_cons, List.map_nil, List.length_cons, List.length_nil, List.replicate, List.cons_append, List.nil_append, List.getElem?_cons_zero, List.getElem?_cons_succ, List.set_cons_succ, List.set_cons_zero, Nat.zero_add, Nat.reduceAdd, Nat.reduceSub, fII, fIIc, fLt, fLe, fGt, fGe, fSub, fMul, fDiv, fMod, fPow, fAdd_int, fLen, items, if_true, fEq_int, fNe_int, fEq_str, fNe_str, List.length_map, mFor, miEnum, miSeq, miRg1, miRg2, mLc, wipeM, mYes, mIsN, mNotN, mMeth, mNeg, mSl, mPart, fSl, fTuple, fList, mBrk, fI1, fI2, tyW, isT]
    exact iteN (by decide) (iteY (by decide) (fg_of k))
  · simp only [mDef, mSeq, mIfS, mVal, mNot, mAnd, mOr, mAndV, mOrV, mNotV, mIf, mOp, mChain, mVar, mC, mTup, mLst, mArgs, mCall, mFn, mDGet, mAsg, mRet, mNext, mRaise, mDrop, mIsi, bindT, setAll, startM, List.map_cons, List.map_nil, List.length_cons, List.length_nil, List.replicate, List.cons_append, List.nil_append, List.getElem?_cons_zero, List.getElem?_cons_succ, List.set_cons_succ, List.set_cons_zero, Nat.zero_add, Nat.reduceAdd, Nat.reduceSub, fII, fIIc, fLt, fLe, fGt, fGe, fSub, fMul, fDiv, fMod, fPow, fAdd_int, fLen, items, if_true, fEq_int, fNe_int, fEq_str, fNe_str, List.length_map, mFor, miEnum, miSeq, miRg1, miRg2, mLc, wipeM, mYes, mIsN, mNotN, mMeth, mNeg, mSl, mPart, fSl, fTuple, fList, mBrk, fI1, fI2, tyW, isT, hp]
    exact iteY (by decide) (fg_of k)
theorem L_need_code {c : Code} (h : Cd c) (k : R .non M) : sp_need_code q RX [c.w] M R := by
  rw [un_need_code]
  simp only [mDef, mSeq, mIfS, mVal, mNot, mAnd, mOr, mAndV, mOrV, mNotV, mIf, mOp, mChain, mVar, mC, mTup, mLst, mArgs, mCall, mFn, mDGet, mAsg, mRet, mNext, mRaise, mDrop, mIsi, bindT, setAll, startM, List.map_cons, List.map_nil, List.length_cons, List.length_nil, List.replicate, List.cons_append, List.nil_append, List.getElem?_cons_zero, List.getElem?_cons_succ, List.set_cons_succ, List.set_cons_zero, Nat.zero_add, Nat.reduceAdd, Nat.reduceSub, fII, fIIc, fLt, fLe, fGt, fGe, fSub, fMul, fDiv, fMod, fPow, fAdd_int, fLen, items, if_true, fEq_int, fNe_int, fEq_str, fNe_str, List.length_map, mFor, miEnum, miSeq, miRg1, miRg2, mLc, wipeM, mYes, mIsN, mNotN, mMeth, mNeg, mSl, mPart, fSl, fTuple, fList, mBrk, fI1, fI2]
  refine L_is_code (by have := h.bank; omega) (by have := h.len; omega) ?_
  rw [h.fit]
  exact iteN (by decide) (fg_of k)
theorem X_need_code {v : W} (h : NoC M v) (k : RX q.BadCode M) : sp_need_code q RX [v] M R := by
  rw [un_need_code]
  simp only [mDef, mSeq, mIfS, mVal, mNot, mAnd, mOr, mAndV, mOrV, mNotV, mIf, mOp, mChain, mVar, mC, mTup, mLst, mArgs, mCall, mFn, mDGet, mAsg, mRet, mNext, mRaise, mDrop, mIsi, bindT, setAll, startM, List.map_cons, List.map_nil, List.length_cons, List.length_nil, List.replicate, List.cons_append, List.nil_append, List.getElem?_cons_zero, List.getElem?_cons_succ, List.set_cons_succ, List.set_cons_zero, Nat.zero_add, Nat.reduceAdd, Nat.reduceSub, fII, fIIc, fLt, fLe, fGt, fGe, fSub, fMul, fDiv, fMod, fPow, fAdd_int, fLen, items, if_true, fEq_int, fNe_int, fEq_str, fNe_str, List.length_map, mFor, miEnum, miSeq, miRg1, miRg2, mLc, wipeM, mYes, mIsN, mNotN, mMeth, mNeg, mSl, mPart, fSl, fTuple, fList, mBrk, fI1, fI2]
  refine L_no_code h ?_
  exact iteY (by decide) ⟨M, Sub.refl, k⟩
theorem L_need_hue {c : Code} {h : Int} (hh : 0 ≤ h ∧ h < c.votes.length) (k : R .non M) : sp_need_hue q RX [c.w, .int h] M R := by
  rw [un_need_hue]
  simp only [mDef, mSeq, mIfS, mVal, mNot, mAnd, mOr, mAndV, mOrV, mNotV, mIf, mOp, mChain, mVar, mC, mTup, mLst, mArgs, mCall, mFn, mDGet, mAsg, mRet, mNext, mRaise, mDrop, mIsi, bindT, setAll, startM, List.map_cons, List.map_nil, List.length_cons, List.length_nil, List.replicate, List.cons_append, List.nil_append, List.getElem?_cons_zero, List.getElem?_cons_succ, List.set_cons_succ, List.set_cons_zero, Nat.zero_add, Nat.reduceAdd, Nat.reduceSub, fII, fIIc, fLt, fLe, fGt, fGe, fSub, fMul, fDiv, fMod, fPow, fAdd_int, fLen, items, if_true, fEq_int, fNe_int, fEq_str, fNe_str, List.length_map, mFor, miEnum, miSeq, miRg1, miRg2, mLc, wipeM, mYes, mIsN, mNotN, mMeth, mNeg, mSl, mPart, fSl, fTuple, fList, mBrk, fI1, fI2, Code.w, isW, fIx, at0]
  refine L_is_from rfl ?_
  have : fromB (.int h) 0 (((c.votes.length : Nat) : Int) - 1) = true := by unfold fromB; simp; omega
  rw [this]
  exact iteN (by decide) (fg_of k)
theorem L_need_address {c : Code} {v : W} (hv : (tyW M v).isSome = true) (kt : fromB v 0 ((c.cells.length : Int) - 1) = true → R .non M) (kf : fromB v 0 ((c.cells.length : Int) - 1) = false → RX q.BadAddress M) : sp_need_address q RX [c.w, v] M R := by
  rw [un_need_address]
  simp only [mDef, mSeq, mIfS, mVal, mNot, mAnd, mOr, mAndV, mOrV, mNotV, mIf, mOp, mChain, mVar, mC, mTup, mLst, mArgs, mCall, mFn, mDGet, mAsg, mRet, mNext, mRaise, mDrop, mIsi, bindT, setAll, startM, List.map_cons, List.map_nil, List.length_cons, List.length_nil, List.replicate, List.cons_append, List.nil_append, List.getElem?_cons_zero, List.getElem?_cons_succ, List.set_cons_succ, List.set_cons_zero, Nat.zero_add, Nat.reduceAdd, Nat.reduceSub, fII, fIIc, fLt, fLe, fGt, fGe, fSub, fMul, fDiv, fMod, fPow, fAdd_int, fLen, items, if_true, fEq_int, fNe_int, fEq_str, fNe_str, List.length_map, mFor, miEnum, miSeq, miRg1, miRg2, mLc, wipeM, mYes, mIsN, mNotN, mMeth, mNeg, mSl, mPart, fSl, fTuple, fList, mBrk, fI1, fI2, Code.w, csW, fIx, at2]
  refine L_is_from hv ?_
  cases e : fromB v 0 ((c.cells.length : Int) - 1) with
  | true => exact iteN (by decide) (fg_of (kt e))
  | false => exact iteY (by decide) ⟨M, Sub.refl, kf e⟩
theorem L_is_settle {x : Cell} (k : R (.bl x.isS) M) : sp_is_settle q RX [x.w] M R := by
  rw [un_is_settle]
  simp only [mDef, mSeq, mIfS, mVal, mNot, mAnd, mOr, mAndV, mOrV, mNotV, mIf, mOp, mChain, mVar, mC, mTup, mLst, mArgs, mCall, mFn, mDGet, mAsg, mRet, mNext, mRaise, mDrop, mIsi, bindT, setAll, startM, List.map_cons, List.map_nil, List.length_cons, List.length_nil, List.replicate, List.cons_append, List.nil_append, List.getElem?_cons_zero, List.getElem?_cons_succ, List.set_cons_succ, List.set_cons_zero, Nat.zero_add, Nat.reduceAdd, Nat.reduceSub, fII, fIIc, fLt, fLe, fGt, fGe, fSub, fMul, fDiv, fMod, fPow, fAdd_int, fLen, items, if_true, fEq_int, fNe_int, fEq_str, fNe_str, List.length_map, mFor, miEnum, miSeq, miRg1, miRg2, mLc, wipeM, mYes, mIsN, mNotN, mMeth, mNeg, mSl, mPart, fSl, fTuple, fList, mBrk, fI1, fI2, fIx0, tyW_hd]
  have : isT (if x.isS = true then .str else .int) .str = x.isS := by cases x.isS <;> rfl
  rw [this]
  exact fg_of k
theorem L_label_lot {cs : List Cell} (hl : cs.length ≤ 1000) (k : ∀ p d ks, M p = none → DK d ks → KS ks (labs cs) → R (.ref p) (updM M p (.dct d))) : sp_label_lot q RX [csW cs] M R := by
  rw [un_label_lot]
  simp only [mDef, mSeq, mIfS, mVal, mNot, mAnd, mOr, mAndV, mOrV, mNotV, mIf, mOp, mChain, mVar, mC, mTup, mLst, mArgs, mCall, mFn, mDGet, mAsg, mRet, mNext, mRaise, mDrop, mIsi, bindT, setAll, startM, List.map_cons, List.map_nil, List.length_cons, List.length_nil, List.replicate, List.cons_append, List.nil_append, List.getElem?_cons_zero, List.getElem?_cons_succ, List.set_cons_succ, List.set_cons_zero, Nat.zero_add, Nat.reduceAdd, Nat.reduceSub, fII, fIIc, fLt, fLe, fGt, fGe, fSub, fMul, fDiv, fMod, fPow, fAdd_int, fLen, items, if_true, fEq_int, fNe_int, fEq_str, fNe_str, List.length_map, mFor, miEnum, miSeq, miRg1, miRg2, mLc, wipeM, mYes, mIsN, mNotN, mMeth, mNeg, mSl, mPart, fSl, fTuple, fList, mBrk, fI1, fI2, csW, mDict, mPairs]
  intro p hp
  refine forL_ind (fun n e M' => ∃ d ks, M' = updM M p (.dct d) ∧ DK d ks ∧ KS ks (labT cs n) ∧ ∃ a b, e = [some (.tup (cs.map Cell.w)), some (.ref p), a, b]) _ 0 _ _ ⟨_, [0], rfl, rfl, ⟨by simp, fun i => by simp [labT, labL], by simp [labT]⟩, none, none, rfl⟩ ?_ ?_
  · rintro i w e M' kk hw ⟨d, ks, rfl, hd, hk, a, b, rfl⟩ hn
    obtain ⟨x', hx', rfl⟩ := enumW_inv hw
    obtain ⟨x, hx, rfl⟩ := map_inv hx'
    refine ⟨trivial, _, rfl, ?_⟩
    rw [Nat.zero_add] at hk hn
    rw [labT_succ hx] at hn
    have dl : d.length + 2 < sizeLine := by
      have h1 := hd.len
      have h2 := hk.len
      have h3 := labT_length cs i
      have h4 := List.length_filter_le Cell.isS cs
      rw [sizeLine_eq]
      omega
    have hlen : (0 : Int) + (i : Nat) + 1 < cs.length ↔ i + 1 < cs.length := by omega
    -- the second step
    have two : ∀ (d : List (Key × W)) (ks : List Int), d.length + 1 < sizeLine → DK d ks → KS ks (labT cs i ++ goalL x) → x.isS = true → ∀ a b,
        (if decide ((0 : Int) + (i : Nat) + 1 < (cs.length : Int)) = true then (d.length < sizeLine ∧ kk [some (W.tup (cs.map Cell.w)), some (.ref p), a, b] (updM M p (.dct (putW d (.inl ((0 : Int) + (i : Nat) + 1)) (.bl true))))) else kk [some (W.tup (cs.map Cell.w)), some (.ref p), a, b] (updM M p (.dct d))) := fun d ks h1 h2 h3 h4 a b => by
      by_cases z : i + 1 < cs.length
      · refine iteY (decide_eq_true (hlen.mpr z)) ⟨by omega, hn _ _ ⟨_, _, rfl, h2.put, ?_, _, _, rfl⟩⟩
        have : stepL cs.length i x = goalL x ++ [((i + 1 : Nat) : Int)] := by
          unfold stepL nextL
          rw [if_pos h4, if_pos z]
        rw [this, ← List.append_assoc]
        have e : (0 : Int) + (i : Nat) + 1 = ((i + 1 : Nat) : Int) := by omega
        rw [e]
        exact h3.add _
      · refine iteN (by rw [decide_eq_true_eq, hlen]; exact z) (hn _ _ ⟨_, _, rfl, h2, ?_, _, _, rfl⟩)
        have : stepL cs.length i x = goalL x := by
          unfold stepL nextL
          rw [if_pos h4, if_neg z, List.append_nil]
        rw [this]
        exact h3
    simp only [mDef, mSeq, mIfS, mVal, mNot, mAnd, mOr, mAndV, mOrV, mNotV, mIf, mOp, mChain, mVar, mC, mTup, mLst, mArgs, mCall, mFn, mDGet, mAsg, mRet, mNext, mRaise, mDrop, mIsi, bindT, setAll, startM, List.map_cons, List.map_nil, List.length_cons, List.length_nil, List.replicate, List.cons_append, List.nil_append, List.getElem?_cons_zero, List.getElem?_cons_succ, List.set_cons_succ, List.set_cons_zero, Nat.zero_add, Nat.reduceAdd, Nat.reduceSub, fII, fIIc, fLt, fLe, fGt, fGe, fSub, fMul, fDiv, fMod, fPow, fAdd_int, fLen, items, if_true, fEq_int, fNe_int, fEq_str, fNe_str, List.length_map, mFor, miEnum, miSeq, miRg1, miRg2, mLc, wipeM, mYes, mIsN, mNotN, mMeth, mNeg, mSl, mPart, fSl, fTuple, fList, mBrk, fI1, fI2, mPut]
    refine L_is_settle ?_
    cases x with
    | ins h ii =>
      refine iteN (show ¬ false = true by decide) (hn _ _ ⟨_, _, rfl, hd, ?_, _, _, rfl⟩)
      have : stepL cs.length i (.ins h ii) = [] := rfl
      rw [this, List.append_nil]
      exact hk
    | thr w2 a2 n2 =>
      refine iteY rfl ?_
      simp only [fIx0, Cell.hd, fIn, inW, flatW, items, List.all_cons, List.all_nil, Bool.and_self, List.any_cons, List.any_nil, eqF, if_true]
      by_cases hw2 : w2 = .tur
      · subst hw2
        refine iteY (by decide) ?_
        simp only [Cell.w, fIx, items, at1, updM_same, keyOf]
        refine ⟨by omega, ?_⟩
        simp only [updM_upd]
        exact two (putW d (.inl a2) (.bl true)) (addK ks a2) (by rw [(hd.put).len]; have := hd.len; split <;> simp <;> omega) hd.put (hk.add a2) rfl _ _
      · refine iteN (by cases w2 <;> first | decide | exact absurd rfl hw2) ?_
        have hg : goalL (.thr w2 a2 n2) = [] := by cases w2 <;> first | rfl | exact absurd rfl hw2
        rw [hg] at two
        rw [List.append_nil] at two
        simp only [updM_same, keyOf, updM_upd]
        exact two d ks (by omega) hd hk rfl _ _
    | goto a2 =>
      refine iteY rfl ?_
      simp only [fIx0, Cell.hd, fIn, inW, flatW, items, List.all_cons, List.all_nil, Bool.and_self, List.any_cons, List.any_nil, eqF, if_true]
      refine iteY (by decide) ?_
      simp only [Cell.w, fIx, items, at1, updM_same, keyOf]
      refine ⟨by omega, ?_⟩
      simp only [updM_upd]
      exact two (putW d (.inl a2) (.bl true)) (addK ks a2) (by rw [(hd.put).len]; have := hd.len; split <;> simp <;> omega) hd.put (hk.add a2) rfl _ _
    | one w2 =>
      refine iteY rfl ?_
      simp only [fIx0, Cell.hd, fIn, inW, flatW, items, List.all_cons, List.all_nil, Bool.and_self, List.any_cons, List.any_nil, eqF, if_true]
      refine iteN (by cases w2 <;> decide) ?_
      have hg : goalL (.one w2) = [] := rfl
      rw [hg] at two
      rw [List.append_nil] at two
      simp only [updM_same, keyOf, updM_upd]
      exact two d ks (by omega) hd hk rfl _ _
  · rintro e M' ⟨d, ks, rfl, hd, hk, a, b, rfl⟩
    refine ⟨trivial, ?_⟩
    rw [enumW_length, List.length_map, Nat.zero_add, labT_all] at hk
    simp only [mDef, mSeq, mIfS, mVal, mNot, mAnd, mOr, mAndV, mOrV, mNotV, mIf, mOp, mChain, mVar, mC, mTup, mLst, mArgs, mCall, mFn, mDGet, mAsg, mRet, mNext, mRaise, mDrop, mIsi, bindT, setAll, startM, List.map_cons, List.map_nil, List.length_cons, List.length_nil, List.replicate, List.cons_append, List.nil_append, List.getElem?_cons_zero, List.getElem?_cons_succ, List.set_cons_succ, List.set_cons_zero, Nat.zero_add, Nat.reduceAdd, Nat.reduceSub, fII, fIIc, fLt, fLe, fGt, fGe, fSub, fMul, fDiv, fMod, fPow, fAdd_int, fLen, items, if_true, fEq_int, fNe_int, fEq_str, fNe_str, List.length_map, mFor, miEnum, miSeq, miRg1, miRg2, mLc, wipeM, mYes, mIsN, mNotN, mMeth, mNeg, mSl, mPart, fSl, fTuple, fList, mBrk, fI1, fI2]
    exact fg_of (k p d ks hp hd hk)
end
end K75


set_option Elab.async false
set_option linter.all false
set_option maxRecDepth 100000
set_option maxHeartbeats 8000000
namespace K75
open PySem PySem.Spec PyProof.Rows L2 ML
/-! # labels, stretches -/
def nW (n : Nat) : W := .int n
def pW (p : Nat × Nat) : W := .tup [.int (p.1 : Nat), .int (p.2 : Nat)]
def oW : Option Nat → W
  | none => .non
  | some f => .int (f : Nat)
theorem inW_ints {M : Mh} {p : Addr} {L : List Int} {i : Int} (hp : M p = some (.lst (L.map W.int))) : inW M (.int i) (.ref p) = some (decide (i ∈ L)) := by
  have h1 : items M (.ref p) = some (L.map W.int) := by simp only [items, hp]
  unfold inW
  rw [h1]
  have h2 : (L.map W.int).all flatW = true := by rw [List.all_map, List.all_eq_true]; intro x _; rfl
  simp only [h2, flatW, Bool.and_self, if_true]
  congr 1
  rw [List.any_map, Bool.eq_iff_iff, List.any_eq_true, decide_eq_true_eq]
  constructor
  · rintro ⟨x, hx, e⟩
    have : x = i := by simpa [eqF] using e
    exact this ▸ hx
  · exact fun h => ⟨i, h, by simp [eqF]⟩
theorem inW_dct {M : Mh} {p : Addr} {d : List (Key × W)} {ks : List Int} {i : Int} (hp : M p = some (.dct d)) (h : DK d ks) : inW M (.int i) (.ref p) = some (decide (i ∈ ks)) := by
  have h1 : items M (.ref p) = none := by simp only [items, hp]
  unfold inW
  rw [h1]
  simp only [hp, keyOf, h.get]
theorem KS.lab {ks : List Int} {cs : List Cell} (h : KS ks (labs cs)) (n : Nat) : decide ((n : Int) ∈ ks) = K75.lab cs n := by
  unfold K75.lab
  rw [Bool.eq_iff_iff, decide_eq_true_eq, decide_eq_true_eq, h.mem]
theorem Cd.goals {c : Code} (h : Cd c) : ∀ x ∈ c.cells, ∀ a, x.goal = some a → 0 ≤ a ∧ a < c.cells.length := fun x hx a ha => by
  have := h.parts.2.2.2.2.2 x hx
  unfold Code.fits at this
  cases x with
  | ins _ _ => cases ha
  | thr w a' n =>
    cases w with
    | tur =>
      cases ha
      have this : (bt 1 n c.hues && bt 0 a (c.many - 1)) = true := this
      unfold bt Code.many at this
      simp only [Bool.and_eq_true, decide_eq_true_eq] at this
      omega
    | sho => cases ha
    | tak => cases ha
  | goto a' =>
    cases ha
    have this : bt 0 a (c.many - 1) = true := this
    unfold bt Code.many at this
    simp only [Bool.and_eq_true, decide_eq_true_eq] at this
    omega
  | one w => cases ha
theorem fg_at {M M2 : Mh} {p : Addr} {o : MO} {R : MK} (hp : M p = none) (s : Sub M M2) (e : M2 p = some o) (k : ∀ p, M p = none → R (.ref p) (updM M p o)) : fg R (.ref p) M2 := by
  refine ⟨updM M p o, fun a u h => ?_, k p hp⟩
  by_cases z : a = p
  · subst z; rw [updM_same] at h; rw [e]; exact h
  · rw [updM_ne z] at h; exact s a u h
theorem sub_keep {M M2 : Mh} {p : Addr} {o : MO} (s : Sub M M2) (hp : M p = none) : Sub M (updM M2 p o) := fun a u e => by
  rw [updM_ne (ne_of_noneM e hp)]; exact s a u e
section
variable {q : Ads} {RX : MX} {M : Mh} {R : MK}
theorem L_labels {c : Code} (h : Cd c) (k : ∀ p, M p = none → R (.ref p) (updM M p (.lst ((labF c.cells).map nW)))) : sp_labels_of q RX [c.w] M R := by
  rw [un_labels_of]
  simp only [mDef, mSeq, mIfS, mVal, mNot, mAnd, mOr, mAndV, mOrV, mNotV, mIf, mOp, mChain, mVar, mC, mTup, mLst, mArgs, mCall, mFn, mDGet, mAsg, mRet, mNext, mRaise, mDrop, mIsi, bindT, setAll, startM, List.map_cons, List.map_nil, List.length_cons, List.length_nil, List.replicate, List.cons_append, List.nil_append, List.getElem?_cons_zero, List.getElem?_cons_succ, List.set_cons_succ, List.set_cons_zero, Nat.zero_add, Nat.reduceAdd, Nat.reduceSub, fII, fIIc, fLt, fLe, fGt, fGe, fSub, fMul, fDiv, fMod, fPow, fAdd_int, fLen, items, if_true, fEq_int, fNe_int, fEq_str, fNe_str, List.length_map, mFor, miEnum, miSeq, miRg1, miRg2, mLc, wipeM, mYes, mIsN, mNotN, mMeth, mNeg, mSl, mPart, fSl, fTuple, fList, mBrk, fI1, fI2]
  refine L_need_code h ?_
  simp only [Code.w, fIx, items, at2]
  refine L_label_lot (by have := h.len; omega) fun p d ks hp hd hk => ?_
  simp only [fSortD, updM_same, hd.ints]
  refine ⟨by have h1 := hk.len; have h2 := labT_length c.cells c.cells.length; rw [labT_all] at h2; have := h.st; omega, fun ys p2 hy hs hp2 => ?_⟩
  rw [labF_is hy hs hk fun i hi => labs_in h.pos h.goals hi, List.map_map]
  exact fg_new (sub_new hp) hp2 k
theorem L_mk_labels {cs : List Cell} (hl : cs.length ≤ 1000) (k : ∀ p, M p = none → R (.ref p) (updM M p (.lst ((labF cs).map nW)))) : sp__law_mk_labels q RX [csW cs] M R := by
  rw [un__law_mk_labels]
  simp only [mDef, mSeq, mIfS, mVal, mNot, mAnd, mOr, mAndV, mOrV, mNotV, mIf, mOp, mChain, mVar, mC, mTup, mLst, mArgs, mCall, mFn, mDGet, mAsg, mRet, mNext, mRaise, mDrop, mIsi, bindT, setAll, startM, List.map_cons, List.map_nil, List.length_cons, List.length_nil, List.replicate, List.cons_append, List.nil_append, List.getElem?_cons_zero, List.getElem?_cons_succ, List.set_cons_succ, List.set_cons_zero, Nat.zero_add, Nat.reduceAdd, Nat.reduceSub, fII, fIIc, fLt, fLe, fGt, fGe, fSub, fMul, fDiv, fMod, fPow, fAdd_int, fLen, items, if_true, fEq_int, fNe_int, fEq_str, fNe_str, List.length_map, mFor, miEnum, miSeq, miRg1, miRg2, mLc, wipeM, mYes, mIsN, mNotN, mMeth, mNeg, mSl, mPart, fSl, fTuple, fList, mBrk, fI1, fI2, csW]
  intro p0 hp0
  refine forL_ind (fun n e M' => ∃ p, Sub M M' ∧ M' p = some (.lst ((labT cs n).map W.int)) ∧ ∃ a b, e = [some (.tup (cs.map Cell.w)), some (.ref p), a, b]) _ 0 _ _ ⟨p0, sub_new hp0, by rw [updM_same]; rfl, none, none, rfl⟩ ?_ ?_
  · rintro i w e M' kk hw ⟨p, sM, hp, a, b, rfl⟩ hn
    obtain ⟨x', hx', rfl⟩ := enumW_inv hw
    obtain ⟨x, hx, rfl⟩ := map_inv hx'
    refine ⟨trivial, _, rfl, ?_⟩
    rw [Nat.zero_add] at hp hn
    rw [labT_succ hx] at hn
    have ll : (labT cs i).length + 2 < 3000 := by
      have h3 := labT_length cs i
      have h4 := List.length_filter_le Cell.isS cs
      omega
    have hlen : (0 : Int) + (i : Nat) + 1 < cs.length ↔ i + 1 < cs.length := by omega
    have two : ∀ (M' : Mh) (p : Addr) (a b : Option W) (L : List Int), L.length ≤ 3000 → Sub M M' → M' p = some (.lst (L.map W.int)) → L = labT cs i ++ goalL x → x.isS = true →
        (if decide ((0 : Int) + (i : Nat) + 1 < (cs.length : Int)) = true then ∀ r, M' r = none → fAdd (.ref p) (.ref r) (updM M' r (.lst [.int ((0 : Int) + (i : Nat) + 1)])) fun w M1 => kk [some (W.tup (cs.map Cell.w)), some w, a, b] M1 else kk [some (W.tup (cs.map Cell.w)), some (.ref p), a, b] M') := fun M' p a b L hL h1 h2 h3 h4 => by
      by_cases z : i + 1 < cs.length
      · refine iteY (decide_eq_true (hlen.mpr z)) fun r hr => ?_
        have pr : p ≠ r := ne_of_noneM h2 hr
        refine cat_ok (by rw [updM_ne pr]; exact h2) updM_same (by simp; omega) fun t ht => hn _ _ ⟨t, (h1.new hr).new ht, ?_, _, _, rfl⟩
        have : stepL cs.length i x = goalL x ++ [((i + 1 : Nat) : Int)] := by
          unfold stepL nextL
          rw [if_pos h4, if_pos z]
        rw [updM_same, this, ← List.append_assoc, ← h3, List.map_append]
        have e : (0 : Int) + (i : Nat) + 1 = ((i + 1 : Nat) : Int) := by omega
        rw [e]
        rfl
      · refine iteN (by rw [decide_eq_true_eq, hlen]; exact z) (hn _ _ ⟨p, h1, ?_, _, _, rfl⟩)
        have : stepL cs.length i x = goalL x := by
          unfold stepL nextL
          rw [if_pos h4, if_neg z, List.append_nil]
        rw [h2, this, h3]
    simp only [mDef, mSeq, mIfS, mVal, mNot, mAnd, mOr, mAndV, mOrV, mNotV, mIf, mOp, mChain, mVar, mC, mTup, mLst, mArgs, mCall, mFn, mDGet, mAsg, mRet, mNext, mRaise, mDrop, mIsi, bindT, setAll, startM, List.map_cons, List.map_nil, List.length_cons, List.length_nil, List.replicate, List.cons_append, List.nil_append, List.getElem?_cons_zero, List.getElem?_cons_succ, List.set_cons_succ, List.set_cons_zero, Nat.zero_add, Nat.reduceAdd, Nat.reduceSub, fII, fIIc, fLt, fLe, fGt, fGe, fSub, fMul, fDiv, fMod, fPow, fAdd_int, fLen, items, if_true, fEq_int, fNe_int, fEq_str, fNe_str, List.length_map, mFor, miEnum, miSeq, miRg1, miRg2, mLc, wipeM, mYes, mIsN, mNotN, mMeth, mNeg, mSl, mPart, fSl, fTuple, fList, mBrk, fI1, fI2, fIx0, tyW_hd]
    cases x with
    | ins h ii =>
      refine iteN (show ¬ isT (if false = true then .str else .int) .str = true by decide) (hn _ _ ⟨p, sM, ?_, _, _, rfl⟩)
      have : stepL cs.length i (.ins h ii) = [] := rfl
      rw [this, List.append_nil]
      exact hp
    | thr w2 a2 n2 =>
      refine iteY rfl ?_
      intro r hr
      have pr : p ≠ r := ne_of_noneM hp hr
      simp only [fIn, inW, items, updM_same, Cell.hd, flatW, List.all_cons, List.all_nil, Bool.and_self, List.any_cons, List.any_nil, eqF, if_true]
      by_cases hw2 : w2 = .tur
      · subst hw2
        refine iteY (by decide) ?_
        simp only [Cell.w, fIx, items, at1]
        intro r2 hr2
        have pr2 : p ≠ r2 := ne_of_noneM (by rw [updM_ne pr]; exact hp) hr2
        refine cat_ok (by rw [updM_ne pr2, updM_ne pr]; exact hp) updM_same (by simp; omega) fun t ht => ?_
        refine two _ t _ _ (labT cs i ++ [a2]) (by simp; omega) (((sM.new hr).new hr2).new ht) (by rw [updM_same, List.map_append]; rfl) rfl rfl
      · refine iteN (by cases w2 <;> first | decide | exact absurd rfl hw2) ?_
        have hg : goalL (.thr w2 a2 n2) = [] := by cases w2 <;> first | rfl | exact absurd rfl hw2
        exact two _ p _ _ (labT cs i) (by omega) (sM.new hr) (by rw [updM_ne pr]; exact hp) (by rw [hg, List.append_nil]) rfl
    | goto a2 =>
      refine iteY rfl ?_
      intro r hr
      have pr : p ≠ r := ne_of_noneM hp hr
      simp only [fIn, inW, items, updM_same, Cell.hd, flatW, List.all_cons, List.all_nil, Bool.and_self, List.any_cons, List.any_nil, eqF, if_true]
      refine iteY (by decide) ?_
      simp only [Cell.w, fIx, items, at1]
      intro r2 hr2
      have pr2 : p ≠ r2 := ne_of_noneM (by rw [updM_ne pr]; exact hp) hr2
      refine cat_ok (by rw [updM_ne pr2, updM_ne pr]; exact hp) updM_same (by simp; omega) fun t ht => ?_
      refine two _ t _ _ (labT cs i ++ [a2]) (by simp; omega) (((sM.new hr).new hr2).new ht) (by rw [updM_same, List.map_append]; rfl) rfl rfl
    | one w2 =>
      refine iteY rfl ?_
      intro r hr
      have pr : p ≠ r := ne_of_noneM hp hr
      simp only [fIn, inW, items, updM_same, Cell.hd, flatW, List.all_cons, List.all_nil, Bool.and_self, List.any_cons, List.any_nil, eqF, if_true]
      refine iteN (by cases w2 <;> decide) ?_
      exact two _ p _ _ (labT cs i) (by omega) (sM.new hr) (by rw [updM_ne pr]; exact hp) (by rw [show goalL (.one w2) = [] from rfl, List.append_nil]) rfl
  · rintro e M' ⟨p, sM, hp, a, b, rfl⟩
    refine ⟨trivial, ?_⟩
    rw [enumW_length, List.length_map, Nat.zero_add, labT_all] at hp
    simp only [mDef, mSeq, mIfS, mVal, mNot, mAnd, mOr, mAndV, mOrV, mNotV, mIf, mOp, mChain, mVar, mC, mTup, mLst, mArgs, mCall, mFn, mDGet, mAsg, mRet, mNext, mRaise, mDrop, mIsi, bindT, setAll, startM, List.map_cons, List.map_nil, List.length_cons, List.length_nil, List.replicate, List.cons_append, List.nil_append, List.getElem?_cons_zero, List.getElem?_cons_succ, List.set_cons_succ, List.set_cons_zero, Nat.zero_add, Nat.reduceAdd, Nat.reduceSub, fII, fIIc, fLt, fLe, fGt, fGe, fSub, fMul, fDiv, fMod, fPow, fAdd_int, fLen, items, if_true, fEq_int, fNe_int, fEq_str, fNe_str, List.length_map, mFor, miEnum, miSeq, miRg1, miRg2, mLc, wipeM, mYes, mIsN, mNotN, mMeth, mNeg, mSl, mPart, fSl, fTuple, fList, mBrk, fI1, fI2]
    refine ⟨by omega, by unfold rgW; rw [List.length_map, List.length_range, sizeLine_eq]; omega, ?_⟩
    unfold rgW
    refine lcL_mapA _ nW (lab cs) trivial _ _ (fun n hn => ?_) ?_
    · refine ⟨_, rfl, fun R hR => ?_, fun _ R hR => ?_⟩
      · simp only [mDef, mSeq, mIfS, mVal, mNot, mAnd, mOr, mAndV, mOrV, mNotV, mIf, mOp, mChain, mVar, mC, mTup, mLst, mArgs, mCall, mFn, mDGet, mAsg, mRet, mNext, mRaise, mDrop, mIsi, bindT, setAll, startM, List.map_cons, List.map_nil, List.length_cons, List.length_nil, List.replicate, List.cons_append, List.nil_append, List.getElem?_cons_zero, List.getElem?_cons_succ, List.set_cons_succ, List.set_cons_zero, Nat.zero_add, Nat.reduceAdd, Nat.reduceSub, fII, fIIc, fLt, fLe, fGt, fGe, fSub, fMul, fDiv, fMod, fPow, fAdd_int, fLen, items, if_true, fEq_int, fNe_int, fEq_str, fNe_str, List.length_map, mFor, miEnum, miSeq, miRg1, miRg2, mLc, wipeM, mYes, mIsN, mNotN, mMeth, mNeg, mSl, mPart, fSl, fTuple, fList, mBrk, fI1, fI2, fIn, inW_ints hp]
        have : decide ((0 : Int) + (n : Nat) ∈ labs cs) = lab cs n := by rw [Int.zero_add]; rfl
        rw [this]
        exact hR
      · simp only [mDef, mSeq, mIfS, mVal, mNot, mAnd, mOr, mAndV, mOrV, mNotV, mIf, mOp, mChain, mVar, mC, mTup, mLst, mArgs, mCall, mFn, mDGet, mAsg, mRet, mNext, mRaise, mDrop, mIsi, bindT, setAll, startM, List.map_cons, List.map_nil, List.length_cons, List.length_nil, List.replicate, List.cons_append, List.nil_append, List.getElem?_cons_zero, List.getElem?_cons_succ, List.set_cons_succ, List.set_cons_zero, Nat.zero_add, Nat.reduceAdd, Nat.reduceSub, fII, fIIc, fLt, fLe, fGt, fGe, fSub, fMul, fDiv, fMod, fPow, fAdd_int, fLen, items, if_true, fEq_int, fNe_int, fEq_str, fNe_str, List.length_map, mFor, miEnum, miSeq, miRg1, miRg2, mLc, wipeM, mYes, mIsN, mNotN, mMeth, mNeg, mSl, mPart, fSl, fTuple, fList, mBrk, fI1, fI2]
        rw [Int.zero_add]
        exact hR
    · rw [List.nil_append]
      intro p2 hp2
      have e : ((cs.length : Nat) : Int) - 0 = (cs.length : Nat) := by omega
      rw [e, Int.toNat_natCast]
      exact fg_new sM hp2 k
end
end K75


set_option Elab.async false
set_option linter.all false
set_option maxRecDepth 100000
set_option maxHeartbeats 8000000
namespace K75
open PySem PySem.Spec PyProof.Rows L2 ML
/-! # stretches -/
theorem sl_none {lb : Nat → Bool} {n : Nat} {c : Cell} {cs : List Cell} : sl lb n none (c :: cs) = sl lb (n + 1) (if c.isS = true then none else some n) cs := rfl
theorem sl_some {lb : Nat → Bool} {n f : Nat} {c : Cell} {cs : List Cell} : sl lb n (some f) (c :: cs) = if (lb n || c.isS) = true then (f, n) :: sl lb (n + 1) (if c.isS = true then none else some n) cs else sl lb (n + 1) (some f) cs := rfl
theorem fIn_of {M : Mh} {x y : W} {c : Bool} {R : MK} (h : inW M x y = some c) (k : R (.bl c) M) : fIn x y M R := by
  unfold fIn; rw [h]; exact k
theorem fNotIn_of {M : Mh} {x y : W} {c : Bool} {R : MK} (h : inW M x y = some c) (k : R (.bl (!c)) M) : fNotIn x y M R := by
  unfold fNotIn; rw [h]; exact k
theorem app_ok {M : Mh} {a : Addr} {xs : List W} {w : W} {R : MK} (h : M a = some (.lst xs)) (hl : xs.length ≤ 1000000) (k : R .non (updM M a (.lst (xs ++ [w])))) : fAppend (.ref a) [w] M R := by
  simp only [fAppend, h]
  exact ⟨by rw [sizeLine_eq]; omega, k⟩
section
variable {q : Ads} {RX : MX} {M : Mh} {R : MK}
theorem L_stretch_list {c : Code} (hl : c.cells.length ≤ 1000) (k : ∀ p, M p = none → R (.ref p) (updM M p (.lst ((St c.cells).map pW)))) : sp_stretch_list q RX [c.w] M R := by
  rw [un_stretch_list]
  simp only [mDef, mSeq, mIfS, mVal, mNot, mAnd, mOr, mAndV, mOrV, mNotV, mIf, mOp, mChain, mVar, mC, mTup, mLst, mArgs, mCall, mFn, mDGet, mAsg, mRet, mNext, mRaise, mDrop, mIsi, bindT, setAll, startM, List.map_cons, List.map_nil, List.length_cons, List.length_nil, List.replicate, List.cons_append, List.nil_append, List.getElem?_cons_zero, List.getElem?_cons_succ, List.set_cons_succ, List.set_cons_zero, Nat.zero_add, Nat.reduceAdd, Nat.reduceSub, fII, fIIc, fLt, fLe, fGt, fGe, fSub, fMul, fDiv, fMod, fPow, fAdd_int, fLen, items, if_true, fEq_int, fNe_int, fEq_str, fNe_str, List.length_map, mFor, miEnum, miSeq, miRg1, miRg2, mLc, wipeM, mYes, mIsN, mNotN, mMeth, mNeg, mSl, mPart, fSl, fTuple, fList, mBrk, fI1, fI2, Code.w, csW, fIx, at2]
  intro p hp
  refine L_label_lot hl fun r d ks hr hd hk => ?_
  have pr : p ≠ r := ne_of_noneM updM_same hr
  refine forL_ind (fun n e M' => ∃ (o : Option Nat) (fl : List (Nat × Nat)), Sub M M' ∧ M' p = some (.lst (fl.map pW)) ∧ M' r = some (.dct d) ∧ fl ++ sl (lab c.cells) n o (c.cells.drop n) = St c.cells ∧ fl.length ≤ n ∧
    ∃ a b, e = [some c.w, some (.ref r), some (.tup (c.cells.map Cell.w)), some (.ref p), some (oW o), a, b]) _ 0 _ _ ⟨none, [], (sub_new hp).new hr, by rw [updM_ne pr, updM_same]; rfl, updM_same, rfl, Nat.le_refl _, none, none, rfl⟩ ?_ ?_
  · rintro i w e M' kk hw ⟨o, fl, sM, h1, h2, h3, h4, a, b, rfl⟩ hn
    obtain ⟨x', hx', rfl⟩ := enumW_inv hw
    obtain ⟨x, hx, rfl⟩ := map_inv hx'
    rw [Nat.zero_add] at h3 h4 hn
    rw [drop_at hx] at h3
    have hi := (List.getElem?_eq_some_iff.mp hx).1
    refine ⟨trivial, _, rfl, ?_⟩
    have e0 : (0 : Int) + (i : Nat) = (i : Nat) := by omega
    rw [e0]
    -- the second half
    have two : ∀ (fl : List (Nat × Nat)) (M' : Mh) (f : List (Nat × Nat)), Sub M M' → M' p = some (.lst (fl.map pW)) → M' r = some (.dct d) → fl.length ≤ i + 1 → fl ++ sl (lab c.cells) (i + 1) (if x.isS = true then none else some i) (c.cells.drop (i + 1)) = St c.cells → ∀ a b,
        sp_is_settle q (fgX RX) [x.w] M' fun w M1 => match w with
          | .bl b' => (if (!b') = true then kk [some c.w, some (W.ref r), some (W.tup (c.cells.map Cell.w)), some (W.ref p), some (.int (i : Nat)), a, b] M1 else kk [some c.w, some (W.ref r), some (W.tup (c.cells.map Cell.w)), some (W.ref p), some .non, a, b] M1)
          | _ => False := fun fl M' f s1 s2 s3 s4 s5 a b => by
      refine L_is_settle ?_
      cases hs : x.isS with
      | true =>
        rw [hs] at s5
        exact iteN (by decide) (hn _ _ ⟨none, fl, s1, s2, s3, s5, s4, a, b, rfl⟩)
      | false =>
        rw [hs] at s5
        exact iteY (by decide) (hn _ _ ⟨some i, fl, s1, s2, s3, s5, s4, a, b, rfl⟩)
    simp only [mDef, mSeq, mIfS, mVal, mNot, mAnd, mOr, mAndV, mOrV, mNotV, mIf, mOp, mChain, mVar, mC, mTup, mLst, mArgs, mCall, mFn, mDGet, mAsg, mRet, mNext, mRaise, mDrop, mIsi, bindT, setAll, startM, List.map_cons, List.map_nil, List.length_cons, List.length_nil, List.replicate, List.cons_append, List.nil_append, List.getElem?_cons_zero, List.getElem?_cons_succ, List.set_cons_succ, List.set_cons_zero, Nat.zero_add, Nat.reduceAdd, Nat.reduceSub, fII, fIIc, fLt, fLe, fGt, fGe, fSub, fMul, fDiv, fMod, fPow, fAdd_int, fLen, items, if_true, fEq_int, fNe_int, fEq_str, fNe_str, List.length_map, mFor, miEnum, miSeq, miRg1, miRg2, mLc, wipeM, mYes, mIsN, mNotN, mMeth, mNeg, mSl, mPart, fSl, fTuple, fList, mBrk, fI1, fI2]
    cases o with
    | none =>
      rw [sl_none] at h3
      simp only [oW]
      refine iteN (by decide) (iteN (by decide) ?_)
      refine two fl M' fl sM h1 h2 (by omega) h3 _ _
    | some f =>
      rw [sl_some] at h3
      simp only [oW]
      have app : (fl ++ [(f, i)]).map pW = fl.map pW ++ [pW (f, i)] := by rw [List.map_append]; rfl
      have go : (lab c.cells i || x.isS) = true → fAppend (.ref p) [.tup [.int (f : Nat), .int (i : Nat)]] M' fun w M1 => sp_is_settle q (fgX RX) [x.w] M1 fun w M2 => match w with
          | .bl b' => (if (!b') = true then kk [some c.w, some (W.ref r), some (W.tup (c.cells.map Cell.w)), some (W.ref p), some (.int (i : Nat)), some (.int (i : Nat)), some x.w] M2 else kk [some c.w, some (W.ref r), some (W.tup (c.cells.map Cell.w)), some (W.ref p), some .non, some (.int (i : Nat)), some x.w] M2)
          | _ => False := fun fire => by
        rw [if_pos fire] at h3
        refine app_ok h1 (by simp; omega) ?_
        refine two (fl ++ [(f, i)]) _ fl (sub_keep sM hp) (by rw [updM_same, app]; rfl) (by rw [updM_ne pr.symm]; exact h2) (by simp; omega) (by rw [List.append_assoc]; exact h3) _ _
      have li : (lstAt M' (.ref p)).isSome = true := by simp only [lstAt, h1]; rfl
      refine fIn_of (inW_dct h2 hd) ?_
      rw [hk.lab]
      cases hlb : lab c.cells i with
      | true => exact iteY rfl ⟨li, go (by rw [hlb]; rfl)⟩
      | false =>
        refine iteN (by decide) (L_is_settle ?_)
        cases hs : x.isS with
        | true => exact iteY rfl ⟨li, go (by rw [hlb, hs]; rfl)⟩
        | false =>
          rw [hlb, hs, if_neg (by decide)] at h3
          exact iteN (by decide) (iteN (by decide) (iteN (by decide) (hn _ _ ⟨some f, fl, sM, h1, h2, h3, by omega, _, _, rfl⟩)))
  · rintro e M' ⟨o, fl, sM, h1, h2, h3, h4, a, b, rfl⟩
    refine ⟨trivial, ?_⟩
    rw [enumW_length, List.length_map, Nat.zero_add] at h3 h4
    rw [List.drop_length] at h3
    simp only [mDef, mSeq, mIfS, mVal, mNot, mAnd, mOr, mAndV, mOrV, mNotV, mIf, mOp, mChain, mVar, mC, mTup, mLst, mArgs, mCall, mFn, mDGet, mAsg, mRet, mNext, mRaise, mDrop, mIsi, bindT, setAll, startM, List.map_cons, List.map_nil, List.length_cons, List.length_nil, List.replicate, List.cons_append, List.nil_append, List.getElem?_cons_zero, List.getElem?_cons_succ, List.set_cons_succ, List.set_cons_zero, Nat.zero_add, Nat.reduceAdd, Nat.reduceSub, fII, fIIc, fLt, fLe, fGt, fGe, fSub, fMul, fDiv, fMod, fPow, fAdd_int, fLen, items, if_true, fEq_int, fNe_int, fEq_str, fNe_str, List.length_map, mFor, miEnum, miSeq, miRg1, miRg2, mLc, wipeM, mYes, mIsN, mNotN, mMeth, mNeg, mSl, mPart, fSl, fTuple, fList, mBrk, fI1, fI2]
    cases o with
    | none =>
      have h3 : fl ++ [] = St c.cells := h3
      rw [List.append_nil] at h3
      subst h3
      simp only [oW]
      exact fg_at hp sM h1 k
    | some f =>
      have h3 : fl ++ [(f, c.cells.length)] = St c.cells := h3
      simp only [oW]
      refine iteN (by decide) fun t ht => ?_
      refine cat_ok (by rw [updM_ne (ne_of_noneM h1 ht)]; exact h1) updM_same (by simp; omega) fun t2 ht2 => ?_
      have e : fl.map pW ++ [.tup [.int (f : Nat), .int (c.cells.length : Nat)]] = (St c.cells).map pW := by rw [← h3, List.map_append]; rfl
      rw [e]
      exact fg_new (sM.new ht) ht2 k
theorem L_stretches {c : Code} (h : Cd c) (k : ∀ p, M p = none → R (.ref p) (updM M p (.lst ((St c.cells).map pW)))) : sp_stretches q RX [c.w] M R := by
  rw [un_stretches]
  simp only [mDef, mSeq, mIfS, mVal, mNot, mAnd, mOr, mAndV, mOrV, mNotV, mIf, mOp, mChain, mVar, mC, mTup, mLst, mArgs, mCall, mFn, mDGet, mAsg, mRet, mNext, mRaise, mDrop, mIsi, bindT, setAll, startM, List.map_cons, List.map_nil, List.length_cons, List.length_nil, List.replicate, List.cons_append, List.nil_append, List.getElem?_cons_zero, List.getElem?_cons_succ, List.set_cons_succ, List.set_cons_zero, Nat.zero_add, Nat.reduceAdd, Nat.reduceSub, fII, fIIc, fLt, fLe, fGt, fGe, fSub, fMul, fDiv, fMod, fPow, fAdd_int, fLen, items, if_true, fEq_int, fNe_int, fEq_str, fNe_str, List.length_map, mFor, miEnum, miSeq, miRg1, miRg2, mLc, wipeM, mYes, mIsN, mNotN, mMeth, mNeg, mSl, mPart, fSl, fTuple, fList, mBrk, fI1, fI2]
  refine L_need_code h (L_stretch_list (by have := h.len; omega) fun p hp => ?_)
  exact fg_of (k p hp)
/-- the law's own way -/
def IS (M : Mh) (cs : List Cell) (p r : Addr) (n : Nat) (e : MEnv) (M' : Mh) : Prop := ∃ (a : Nat) (fl : List (Nat × Nat)), n = cs.length - a ∧ a ≤ cs.length ∧ Sub M M' ∧ M' p = some (.lst (fl.map pW)) ∧ M' r = some (.lst ((labF cs).map nW)) ∧ fl ++ sl (lab cs) a none (cs.drop a) = St cs ∧ fl.length ≤ a ∧ ∃ b, e = [some (.tup (cs.map Cell.w)), some (.ref r), some (.ref p), some (.int (a : Nat)), b]
def IZ (M : Mh) (cs : List Cell) (p r : Addr) (a : Nat) (fl : List (Nat × Nat)) (n : Nat) (e : MEnv) (M' : Mh) : Prop := ∃ z : Nat, n = cs.length - z ∧ M = M' ∧ a ≤ z ∧ z ≤ cs.length ∧ (z = a ∨ (a < z ∧ fl ++ sl (lab cs) z (some a) (cs.drop z) = St cs)) ∧ e = [some (.tup (cs.map Cell.w)), some (.ref r), some (.ref p), some (.int (a : Nat)), some (.int (z : Nat))]
theorem mem_labF {cs : List Cell} {n : Nat} (h : n < cs.length) : ((labF cs).map fun n : Nat => (n : Int)).contains (n : Int) = lab cs n := by
  rw [Bool.eq_iff_iff, List.contains_iff_mem, List.mem_map]
  unfold labF
  constructor
  · rintro ⟨m, hm, e⟩
    have : m = n := by omega
    subst this
    exact (List.mem_filter.mp hm).2
  · exact fun z => ⟨n, List.mem_filter.mpr ⟨List.mem_range.mpr h, z⟩, rfl⟩
theorem inW_labF {M : Mh} {r : Addr} {cs : List Cell} {n : Nat} (h : n < cs.length) (hr : M r = some (.lst ((labF cs).map nW))) : inW M (.int n) (.ref r) = some (lab cs n) := by
  have e : (labF cs).map nW = ((labF cs).map fun n : Nat => (n : Int)).map W.int := by rw [List.map_map]; rfl
  rw [e] at hr
  rw [inW_ints hr, ← mem_labF h, List.contains_eq_mem]
theorem L_mk_stretches {cs : List Cell} (hl : cs.length ≤ 1000) (k : ∀ p, M p = none → R (.ref p) (updM M p (.lst ((St cs).map pW)))) : sp__law_mk_stretches q RX [csW cs] M R := by
  rw [un__law_mk_stretches]
  simp only [mDef, mSeq, mIfS, mVal, mNot, mAnd, mOr, mAndV, mOrV, mNotV, mIf, mOp, mChain, mVar, mC, mTup, mLst, mArgs, mCall, mFn, mDGet, mAsg, mRet, mNext, mRaise, mDrop, mIsi, bindT, setAll, startM, List.map_cons, List.map_nil, List.length_cons, List.length_nil, List.replicate, List.cons_append, List.nil_append, List.getElem?_cons_zero, List.getElem?_cons_succ, List.set_cons_succ, List.set_cons_zero, Nat.zero_add, Nat.reduceAdd, Nat.reduceSub, fII, fIIc, fLt, fLe, fGt, fGe, fSub, fMul, fDiv, fMod, fPow, fAdd_int, fLen, items, if_true, fEq_int, fNe_int, fEq_str, fNe_str, List.length_map, mFor, miEnum, miSeq, miRg1, miRg2, mLc, wipeM, mYes, mIsN, mNotN, mMeth, mNeg, mSl, mPart, fSl, fTuple, fList, mBrk, fI1, fI2, csW, mWhile]
  refine L_mk_labels hl fun r hr => ?_
  intro p hp
  have rp : r ≠ p := ne_of_noneM updM_same hp
  refine ⟨IS M cs p r, ⟨_, 0, [], rfl, Nat.zero_le _, (sub_new hr).new hp, updM_same, by rw [updM_ne rp, updM_same], rfl, Nat.le_refl _, none, rfl⟩, ?_⟩
  rintro n e M' ⟨a, fl, hn, ha, sM, h1, h2, h3, h4, b, rfl⟩
  have pM : M p = none := free_sub (sub_new hr) hp
  simp only [mDef, mSeq, mIfS, mVal, mNot, mAnd, mOr, mAndV, mOrV, mNotV, mIf, mOp, mChain, mVar, mC, mTup, mLst, mArgs, mCall, mFn, mDGet, mAsg, mRet, mNext, mRaise, mDrop, mIsi, bindT, setAll, startM, List.map_cons, List.map_nil, List.length_cons, List.length_nil, List.replicate, List.cons_append, List.nil_append, List.getElem?_cons_zero, List.getElem?_cons_succ, List.set_cons_succ, List.set_cons_zero, Nat.zero_add, Nat.reduceAdd, Nat.reduceSub, fII, fIIc, fLt, fLe, fGt, fGe, fSub, fMul, fDiv, fMod, fPow, fAdd_int, fLen, items, if_true, fEq_int, fNe_int, fEq_str, fNe_str, List.length_map, mFor, miEnum, miSeq, miRg1, miRg2, mLc, wipeM, mYes, mIsN, mNotN, mMeth, mNeg, mSl, mPart, fSl, fTuple, fList, mBrk, fI1, fI2]
  by_cases hlt : a < cs.length
  · refine iteY (decide_eq_true (by omega)) ?_
    refine ⟨IZ M' cs p r a fl, ⟨_, a, rfl, rfl, Nat.le_refl _, ha, .inl rfl, rfl⟩, ?_⟩
    rintro n2 e M2 ⟨z, hn2, rfl, z1, z2, hz, rfl⟩
    simp only [mDef, mSeq, mIfS, mVal, mNot, mAnd, mOr, mAndV, mOrV, mNotV, mIf, mOp, mChain, mVar, mC, mTup, mLst, mArgs, mCall, mFn, mDGet, mAsg, mRet, mNext, mRaise, mDrop, mIsi, bindT, setAll, startM, List.map_cons, List.map_nil, List.length_cons, List.length_nil, List.replicate, List.cons_append, List.nil_append, List.getElem?_cons_zero, List.getElem?_cons_succ, List.set_cons_succ, List.set_cons_zero, Nat.zero_add, Nat.reduceAdd, Nat.reduceSub, fII, fIIc, fLt, fLe, fGt, fGe, fSub, fMul, fDiv, fMod, fPow, fAdd_int, fLen, items, if_true, fEq_int, fNe_int, fEq_str, fNe_str, List.length_map, mFor, miEnum, miSeq, miRg1, miRg2, mLc, wipeM, mYes, mIsN, mNotN, mMeth, mNeg, mSl, mPart, fSl, fTuple, fList, mBrk, fI1, fI2]
    obtain ⟨x, hx⟩ : ∃ x, cs[a]? = some x := ⟨_, List.getElem?_eq_getElem hlt⟩
    have h3' := h3
    rw [drop_at hx, sl_none] at h3'
    have li : (lstAt M' (.ref p)).isSome = true := by simp only [lstAt, h1]; rfl
    have fin : (z = a → x.isS = true) → (a < z → sl (lab cs) z (some a) (cs.drop z) = (a, z) :: sl (lab cs) z none (cs.drop z)) →
        (if decide ((a : Int) < (z : Nat)) = true then ((lstAt M' (.ref p)).isSome = true ∧ fAppend (.ref p) [.tup [.int (a : Nat), .int (z : Nat)]] M' fun _ M1 => ∃ n', n' < n ∧ IS M cs p r n' [some (.tup (cs.map Cell.w)), some (.ref r), some (.ref p), some (.int (if (a : Int) + 1 > (z : Nat) then (a : Int) + 1 else (z : Nat))), some (.int (z : Nat))] M1)
          else ∃ n', n' < n ∧ IS M cs p r n' [some (.tup (cs.map Cell.w)), some (.ref r), some (.ref p), some (.int (if (a : Int) + 1 > (z : Nat) then (a : Int) + 1 else (z : Nat))), some (.int (z : Nat))] M') := fun f1 f2 => by
      by_cases haz : a < z
      · refine iteY (decide_eq_true (by omega)) ⟨li, app_ok h1 (by simp; omega) ⟨cs.length - z, by omega, z, fl ++ [(a, z)], rfl, z2, sub_keep sM pM, ?_, ?_, ?_, ?_, some (.int (z : Nat)), ?_⟩⟩
        · rw [updM_same, List.map_append]; rfl
        · rw [updM_ne rp]; exact h2
        · rw [List.append_assoc]
          rcases hz with hz | hz
          · omega
          · rw [f2 haz] at hz
            exact hz.2
        · simp; omega
        · rw [if_neg (by omega)]
      · have za : z = a := by omega
        subst za
        refine iteN (by simp) ⟨cs.length - (z + 1), by omega, z + 1, fl, rfl, by omega, sM, h1, h2, ?_, by omega, some (.int (z : Nat)), ?_⟩
        · rw [f1 rfl, if_pos rfl] at h3'
          exact h3'
        · rw [if_pos (by omega)]
          rfl
    by_cases hzl : z < cs.length
    · obtain ⟨y, hy⟩ : ∃ y, cs[z]? = some y := ⟨_, List.getElem?_eq_getElem hzl⟩
      refine iteY (decide_eq_true (by omega)) ?_
      rw [fIx_map hy]
      simp only [fIx0, tyW_hd]
      cases hs : y.isS with
      | true =>
        refine iteN (by decide) (fin (fun e => by subst e; rw [hx] at hy; cases hy; exact hs) fun haz => ?_)
        rw [drop_at hy, sl_some, sl_none, hs]
        simp
      | false =>
        refine iteY (by decide) ?_
        have nxt : fl ++ sl (lab cs) (z + 1) (some a) (cs.drop (z + 1)) = St cs → ∃ n', n' < n2 ∧ IZ M' cs p r a fl n' [some (.tup (cs.map Cell.w)), some (.ref r), some (.ref p), some (.int (a : Nat)), some (.int ((z : Nat) + 1))] M' := fun h =>
          ⟨cs.length - (z + 1), by omega, z + 1, rfl, rfl, by omega, by omega, .inr ⟨by omega, h⟩, rfl⟩
        by_cases hza : z = a
        · refine iteY (decide_eq_true (by omega)) (nxt ?_)
          subst hza
          rw [hx] at hy
          cases hy
          rw [hs] at h3'
          exact h3'
        · refine iteN (by rw [decide_eq_true_eq]; omega) (fNotIn_of (inW_labF hzl h2) ?_)
          cases hlb : lab cs z with
          | true =>
            refine iteN (by decide) (fin (fun e => absurd e hza) fun haz => ?_)
            rw [drop_at hy, sl_some, sl_none, hlb]
            simp
          | false =>
            refine iteY (by decide) (nxt ?_)
            rcases hz with hz | hz
            · exact absurd hz hza
            · have := hz.2
              rw [drop_at hy, sl_some, hs, hlb] at this
              exact this
    · have zl : z = cs.length := by omega
      refine iteN (by rw [decide_eq_true_eq]; omega) (fin (fun e => by omega) fun haz => ?_)
      subst zl
      rw [List.drop_length]
      rfl
  · have al : a = cs.length := by omega
    refine iteN (by rw [decide_eq_true_eq]; omega) ?_
    rw [al, List.drop_length] at h3
    have h3 : fl ++ [] = St cs := h3
    rw [List.append_nil] at h3
    subst h3
    exact fg_at pM sM h1 k
end
end K75


set_option Elab.async false
set_option linter.all false
set_option maxRecDepth 100000
set_option maxHeartbeats 8000000
namespace K75
open PySem PySem.Spec PyProof.Rows L2 ML
/-! # exchanges -/
theorem cut_take {ws : List W} {n : Nat} (h : n ≤ ws.length) : cutW ws none (some (n : Int)) = ws.take n := by
  unfold cutW
  rw [HT.sIx_none, HT.sIx_nat, Nat.min_eq_left h]
  rfl
theorem cut_drop {ws : List W} {n : Nat} (h : n ≤ ws.length) : cutW ws (some (n : Int)) none = ws.drop n := by
  unfold cutW
  rw [HT.sIx_none, HT.sIx_nat, Nat.min_eq_left h, List.take_of_length_le (by simp)]
theorem cut_slice {cs : List Cell} {f e : Nat} (fe : f ≤ e) (h : e ≤ cs.length) : cutW (cs.map Cell.w) (some (f : Int)) (some (e : Int)) = (slice f e cs).map Cell.w := by
  unfold cutW slice
  rw [HT.sIx_nat, HT.sIx_nat, List.length_map, Nat.min_eq_left h, Nat.min_eq_left (Nat.le_trans fe h), List.map_take, List.map_drop]
theorem hd_ins {x : Cell} (h : x.isS = false) : x.hd = .int x.hue := by
  cases x <;> first | rfl | cases h
theorem hd_str {x : Cell} (h : x.isS = true) : ∃ s, x.hd = .str s := by
  cases x with
  | ins a b => cases h
  | thr a b c => exact ⟨_, rfl⟩
  | goto a => exact ⟨_, rfl⟩
  | one w => exact ⟨_, rfl⟩
def oN : Option Nat → Nat
  | none => 0
  | some _ => 1
theorem oN_if {c : Bool} {n : Nat} : oN (if c = true then none else some n) ≤ 1 := by
  cases c
  · exact Nat.le_refl _
  · exact Nat.zero_le _
theorem sl_length {lb : Nat → Bool} : ∀ (cs : List Cell) (n : Nat) (o : Option Nat), (sl lb n o cs).length ≤ cs.length + oN o
  | [], _, none => Nat.le_refl _
  | [], _, some _ => Nat.le_refl _
  | c :: cs, n, none => by
    rw [sl_none]
    have := sl_length (lb := lb) cs (n + 1) (if c.isS = true then none else some n)
    have h2 := oN_if (c := c.isS) (n := n)
    rw [List.length_cons]
    show _ ≤ cs.length + 1 + 0
    omega
  | c :: cs, n, some f => by
    rw [sl_some]
    split
    · have := sl_length (lb := lb) cs (n + 1) (if c.isS = true then none else some n)
      have h2 := oN_if (c := c.isS) (n := n)
      rw [List.length_cons, List.length_cons]
      show _ ≤ cs.length + 1 + 1
      omega
    · have := sl_length (lb := lb) cs (n + 1) (some f)
      rw [List.length_cons]
      show _ ≤ cs.length + 1 + 1
      have : oN (some f) = 1 := rfl
      omega
theorem St_length (cs : List Cell) : (St cs).length ≤ cs.length := sl_length cs 0 none
def spotL (cs : List Cell) (p : Nat × Nat) : List Nat := ((List.range (p.2 - 1 - p.1)).map (p.1 + ·)).filter (dif cs)
theorem spotL_is (cs : List Cell) (p : Nat × Nat) : spotL cs p = ((List.range (p.2 - 1 - p.1)).filter fun i => dif cs (p.1 + i)).map (p.1 + ·) := by
  unfold spotL
  rw [List.filter_map]
  rfl
theorem spotL_length (cs : List Cell) {p : Nat × Nat} (h : p.2 ≤ 1000) : (spotL cs p).length ≤ 1000 := by
  unfold spotL
  have := List.length_filter_le (dif cs) ((List.range (p.2 - 1 - p.1)).map (p.1 + ·))
  rw [List.length_map, List.length_range] at this
  omega
theorem take_next {α : Type} {l : List α} {i : Nat} {x : α} (h : l[i]? = some x) : l.take (i + 1) = l.take i ++ [x] := by
  rw [List.take_succ, h]; rfl
theorem nW_add (a b : Nat) : W.int ((a : Int) + (b : Nat)) = nW (a + b) := by
  unfold nW
  rw [Int.natCast_add]
theorem two_ins {cs : List Cell} {p : Nat × Nat} (hp : p ∈ St cs) {i : Nat} (hi : i < p.2 - 1 - p.1) : ∃ x y, cs[p.1 + i]? = some x ∧ cs[p.1 + i + 1]? = some y ∧ x.isS = false ∧ y.isS = false := by
  have g := ((St_good cs).each p hp).2.2.2.2.2.2
  obtain ⟨x, hx, sx⟩ := g (p.1 + i) (by omega) (by omega)
  obtain ⟨y, hy, sy⟩ := g (p.1 + i + 1) (by omega) (by omega)
  exact ⟨x, y, hx, hy, sx, sy⟩
theorem dif_is {cs : List Cell} {i : Nat} {x y : Cell} (hx : cs[i]? = some x) (hy : cs[i + 1]? = some y) : dif cs i = !decide (x.hue = y.hue) := by
  unfold dif
  rw [hx, hy]
  simp
theorem fIx_c0 {c : Code} {M : Mh} {R : MK} : fIx c.w (.int 0) M R = R (isW c.votes) M := by simp only [Code.w, fIx, items, at0]
theorem fIx_c1 {c : Code} {M : Mh} {R : MK} : fIx c.w (.int 1) M R = R (.int c.size) M := by simp only [Code.w, fIx, items, at1]
theorem fIx_c2 {c : Code} {M : Mh} {R : MK} : fIx c.w (.int 2) M R = R (csW c.cells) M := by simp only [Code.w, fIx, items, at2]
theorem fIx_c3 {c : Code} {M : Mh} {R : MK} : fIx c.w (.int 3) M R = R (isW c.bank) M := by simp only [Code.w, fIx, items, at3]
theorem items_cs {cs : List Cell} {M : Mh} : items M (csW cs) = some (cs.map Cell.w) := rfl
theorem items_is {is : List Int} {M : Mh} : items M (isW is) = some (is.map W.int) := rfl
section
variable {q : Ads} {RX : MX} {M : Mh} {R : MK}
theorem L_exchange_spots {c : Code} (hl : c.cells.length ≤ 1000) (k : ∀ p, M p = none → R (.ref p) (updM M p (.lst ((spots c.cells).map nW)))) : sp_exchange_spots q RX [c.w] M R := by
  rw [un_exchange_spots]
  simp only [mDef, mSeq, mIfS, mVal, mNot, mAnd, mOr, mAndV, mOrV, mNotV, mIf, mOp, mChain, mVar, mC, mTup, mLst, mArgs, mCall, mFn, mDGet, mAsg, mRet, mNext, mRaise, mDrop, mIsi, bindT, setAll, startM, List.map_cons, List.map_nil, List.length_cons, List.length_nil, List.replicate, List.cons_append, List.nil_append, List.getElem?_cons_zero, List.getElem?_cons_succ, List.set_cons_succ, List.set_cons_zero, Nat.zero_add, Nat.reduceAdd, Nat.reduceSub, fII, fIIc, fLt, fLe, fGt, fGe, fSub, fMul, fDiv, fMod, fPow, fAdd_int, fLen, items, if_true, fEq_int, fNe_int, fEq_str, fNe_str, List.length_map, mFor, miEnum, miSeq, miRg1, miRg2, mLc, wipeM, mYes, mIsN, mNotN, mMeth, mNeg, mSl, mPart, fSl, fTuple, fList, mBrk, fI1, fI2]
  intro p hp
  refine L_stretch_list hl fun r hr => ?_
  simp only [updM_same]
  have pr : p ≠ r := ne_of_noneM updM_same hr
  refine forL_ind (fun n e M' => ∃ acc : List Nat, Sub M M' ∧ M' p = some (.lst (acc.map nW)) ∧ M' r = some (.lst ((St c.cells).map pW)) ∧ acc = ((St c.cells).take n).flatMap (spotL c.cells) ∧ acc.length ≤ n * 1000 ∧ ∃ a b d, e = [some c.w, some (.ref p), a, b, d]) _ 0 _ _ ⟨[], (sub_new hp).new hr, by rw [updM_ne pr, updM_same]; rfl, updM_same, rfl, Nat.le_refl _, none, none, none, rfl⟩ ?_ ?_
  · rintro i w e M' kk hw ⟨acc, sM, h1, h2, h3, h4, a, b, d, rfl⟩ hn
    obtain ⟨x, hx, rfl⟩ := map_inv hw
    rw [Nat.zero_add] at h3 h4 hn
    have hp2 := List.mem_of_getElem? hx
    have g := (St_good c.cells).each x hp2
    have hi := (List.getElem?_eq_some_iff.mp hx).1
    have hi2 := St_length c.cells
    refine ⟨h2, _, rfl, ?_⟩
    simp only [mDef, mSeq, mIfS, mVal, mNot, mAnd, mOr, mAndV, mOrV, mNotV, mIf, mOp, mChain, mVar, mC, mTup, mLst, mArgs, mCall, mFn, mDGet, mAsg, mRet, mNext, mRaise, mDrop, mIsi, bindT, setAll, startM, List.map_cons, List.map_nil, List.length_cons, List.length_nil, List.replicate, List.cons_append, List.nil_append, List.getElem?_cons_zero, List.getElem?_cons_succ, List.set_cons_succ, List.set_cons_zero, Nat.zero_add, Nat.reduceAdd, Nat.reduceSub, fII, fIIc, fLt, fLe, fGt, fGe, fSub, fMul, fDiv, fMod, fPow, fAdd_int, fLen, items, if_true, fEq_int, fNe_int, fEq_str, fNe_str, List.length_map, mFor, miEnum, miSeq, miRg1, miRg2, mLc, wipeM, mYes, mIsN, mNotN, mMeth, mNeg, mSl, mPart, fSl, fTuple, fList, mBrk, fI1, fI2]
    have li : (lstAt M' (.ref p)).isSome = true := by simp only [lstAt, h1]; rfl
    have e1 : (((x.2 : Nat) : Int) - 1 - ((x.1 : Nat) : Int)).toNat = x.2 - 1 - x.1 := by omega
    refine ⟨li, ⟨by omega, by omega, by omega, by omega⟩, by unfold rgW; rw [List.length_map, List.length_range, sizeLine_eq]; omega, ?_⟩
    unfold rgW
    rw [e1]
    refine lcL_mapA _ (fun j => nW (x.1 + j)) (fun j => dif c.cells (x.1 + j)) trivial _ _ (fun j hj => ?_) ?_
    · have hj := List.mem_range.mp hj
      obtain ⟨y, z, hy, hz, sy, sz⟩ := two_ins hp2 hj
      have ej : ((x.1 : Nat) : Int) + (j : Nat) = ((x.1 + j : Nat) : Int) := by omega
      have ej1 : ((x.1 + j : Nat) : Int) + 1 = ((x.1 + j + 1 : Nat) : Int) := by omega
      refine ⟨_, rfl, fun R hR => ?_, fun _ R hR => ?_⟩
      · simp only [mDef, mSeq, mIfS, mVal, mNot, mAnd, mOr, mAndV, mOrV, mNotV, mIf, mOp, mChain, mVar, mC, mTup, mLst, mArgs, mCall, mFn, mDGet, mAsg, mRet, mNext, mRaise, mDrop, mIsi, bindT, setAll, startM, List.map_cons, List.map_nil, List.length_cons, List.length_nil, List.replicate, List.cons_append, List.nil_append, List.getElem?_cons_zero, List.getElem?_cons_succ, List.set_cons_succ, List.set_cons_zero, Nat.zero_add, Nat.reduceAdd, Nat.reduceSub, fII, fIIc, fLt, fLe, fGt, fGe, fSub, fMul, fDiv, fMod, fPow, fAdd_int, fLen, items, if_true, fEq_int, fNe_int, fEq_str, fNe_str, List.length_map, mFor, miEnum, miSeq, miRg1, miRg2, mLc, wipeM, mYes, mIsN, mNotN, mMeth, mNeg, mSl, mPart, fSl, fTuple, fList, mBrk, fI1, fI2, fIx_c2, ej, ej1, csW, fIx_map hy, fIx_map hz, fIx0, hd_ins sy, hd_ins sz]
        rw [← dif_is hy hz]
        exact hR
      · simp only [mDef, mSeq, mIfS, mVal, mNot, mAnd, mOr, mAndV, mOrV, mNotV, mIf, mOp, mChain, mVar, mC, mTup, mLst, mArgs, mCall, mFn, mDGet, mAsg, mRet, mNext, mRaise, mDrop, mIsi, bindT, setAll, startM, List.map_cons, List.map_nil, List.length_cons, List.length_nil, List.replicate, List.cons_append, List.nil_append, List.getElem?_cons_zero, List.getElem?_cons_succ, List.set_cons_succ, List.set_cons_zero, Nat.zero_add, Nat.reduceAdd, Nat.reduceSub, fII, fIIc, fLt, fLe, fGt, fGe, fSub, fMul, fDiv, fMod, fPow, fAdd_int, fLen, items, if_true, fEq_int, fNe_int, fEq_str, fNe_str, List.length_map, mFor, miEnum, miSeq, miRg1, miRg2, mLc, wipeM, mYes, mIsN, mNotN, mMeth, mNeg, mSl, mPart, fSl, fTuple, fList, mBrk, fI1, fI2]
        rw [nW_add]
        exact hR
    · rw [List.nil_append]
      intro t ht
      have e2 : ((List.range (x.2 - 1 - x.1)).filter fun j => dif c.cells (x.1 + j)).map (fun j => nW (x.1 + j)) = (spotL c.cells x).map nW := by
        rw [spotL_is, List.map_map]
        rfl
      rw [e2]
      have sl := spotL_length c.cells (p := x) (by omega)
      have pt : p ≠ t := ne_of_noneM h1 ht
      have rt : r ≠ t := ne_of_noneM h2 ht
      simp only [fExtend, updM_same, updM_ne pt, h1]
      refine ⟨by rw [sizeLine_eq]; simp only [List.length_map]; have := Nat.mul_le_mul_right 1000 (show i ≤ 1000 by omega); omega, hn _ _ ⟨acc ++ spotL c.cells x, sub_keep (sM.new ht) hp, ?_, ?_, ?_, ?_, _, _, _, rfl⟩⟩
      · rw [updM_same, List.map_append]
      · rw [updM_ne pr.symm, updM_ne rt]; exact h2
      · rw [take_next hx, List.flatMap_append, h3]
        simp
      · rw [List.length_append, Nat.succ_mul]
        omega
  · rintro e M' ⟨acc, sM, h1, h2, h3, h4, a, b, d, rfl⟩
    refine ⟨h2, ?_⟩
    rw [List.length_map, Nat.zero_add, List.take_length] at h3
    have h3 : acc = spots c.cells := h3
    subst h3
    exact fg_at hp sM h1 k
theorem L_exchangeable {c : Code} (h : Cd c) (k : ∀ p, M p = none → R (.ref p) (updM M p (.lst ((spots c.cells).map nW)))) : sp_exchangeable q RX [c.w] M R := by
  rw [un_exchangeable]
  simp only [mDef, mSeq, mIfS, mVal, mNot, mAnd, mOr, mAndV, mOrV, mNotV, mIf, mOp, mChain, mVar, mC, mTup, mLst, mArgs, mCall, mFn, mDGet, mAsg, mRet, mNext, mRaise, mDrop, mIsi, bindT, setAll, startM, List.map_cons, List.map_nil, List.length_cons, List.length_nil, List.replicate, List.cons_append, List.nil_append, List.getElem?_cons_zero, List.getElem?_cons_succ, List.set_cons_succ, List.set_cons_zero, Nat.zero_add, Nat.reduceAdd, Nat.reduceSub, fII, fIIc, fLt, fLe, fGt, fGe, fSub, fMul, fDiv, fMod, fPow, fAdd_int, fLen, items, if_true, fEq_int, fNe_int, fEq_str, fNe_str, List.length_map, mFor, miEnum, miSeq, miRg1, miRg2, mLc, wipeM, mYes, mIsN, mNotN, mMeth, mNeg, mSl, mPart, fSl, fTuple, fList, mBrk, fI1, fI2]
  refine L_need_code h (L_exchange_spots (by have := h.len; omega) fun p hp => ?_)
  exact fg_of (k p hp)
theorem L_mk_swaps {cs : List Cell} (hl : cs.length ≤ 1000) (k : ∀ p, M p = none → R (.ref p) (updM M p (.lst ((spots cs).map nW)))) : sp__law_mk_swaps q RX [csW cs] M R := by
  rw [un__law_mk_swaps]
  simp only [mDef, mSeq, mIfS, mVal, mNot, mAnd, mOr, mAndV, mOrV, mNotV, mIf, mOp, mChain, mVar, mC, mTup, mLst, mArgs, mCall, mFn, mDGet, mAsg, mRet, mNext, mRaise, mDrop, mIsi, bindT, setAll, startM, List.map_cons, List.map_nil, List.length_cons, List.length_nil, List.replicate, List.cons_append, List.nil_append, List.getElem?_cons_zero, List.getElem?_cons_succ, List.set_cons_succ, List.set_cons_zero, Nat.zero_add, Nat.reduceAdd, Nat.reduceSub, fII, fIIc, fLt, fLe, fGt, fGe, fSub, fMul, fDiv, fMod, fPow, fAdd_int, fLen, items, if_true, fEq_int, fNe_int, fEq_str, fNe_str, List.length_map, mFor, miEnum, miSeq, miRg1, miRg2, mLc, wipeM, mYes, mIsN, mNotN, mMeth, mNeg, mSl, mPart, fSl, fTuple, fList, mBrk, fI1, fI2]
  intro p hp
  refine L_mk_stretches hl fun r hr => ?_
  simp only [updM_same]
  have pr : p ≠ r := ne_of_noneM updM_same hr
  refine forL_ind (fun n e M' => ∃ acc : List Nat, Sub M M' ∧ M' p = some (.lst (acc.map nW)) ∧ M' r = some (.lst ((St cs).map pW)) ∧ acc = ((St cs).take n).flatMap (spotL cs) ∧ acc.length ≤ n * 1000 ∧ ∃ a b d, e = [some (csW cs), some (.ref p), a, b, d]) _ 0 _ _ ⟨[], (sub_new hp).new hr, by rw [updM_ne pr, updM_same]; rfl, updM_same, rfl, Nat.le_refl _, none, none, none, rfl⟩ ?_ ?_
  · rintro i w e M' kk hw ⟨acc, sM, h1, h2, h3, h4, a, b, d, rfl⟩ hn
    obtain ⟨x, hx, rfl⟩ := map_inv hw
    rw [Nat.zero_add] at h3 h4 hn
    have hp2 := List.mem_of_getElem? hx
    have g := (St_good cs).each x hp2
    have hi := (List.getElem?_eq_some_iff.mp hx).1
    have hi2 := St_length cs
    refine ⟨h2, _, rfl, ?_⟩
    simp only [mDef, mSeq, mIfS, mVal, mNot, mAnd, mOr, mAndV, mOrV, mNotV, mIf, mOp, mChain, mVar, mC, mTup, mLst, mArgs, mCall, mFn, mDGet, mAsg, mRet, mNext, mRaise, mDrop, mIsi, bindT, setAll, startM, List.map_cons, List.map_nil, List.length_cons, List.length_nil, List.replicate, List.cons_append, List.nil_append, List.getElem?_cons_zero, List.getElem?_cons_succ, List.set_cons_succ, List.set_cons_zero, Nat.zero_add, Nat.reduceAdd, Nat.reduceSub, fII, fIIc, fLt, fLe, fGt, fGe, fSub, fMul, fDiv, fMod, fPow, fAdd_int, fLen, items, if_true, fEq_int, fNe_int, fEq_str, fNe_str, List.length_map, mFor, miEnum, miSeq, miRg1, miRg2, mLc, wipeM, mYes, mIsN, mNotN, mMeth, mNeg, mSl, mPart, fSl, fTuple, fList, mBrk, fI1, fI2]
    have e1 : (((x.2 : Nat) : Int) - 1 - ((x.1 : Nat) : Int)).toNat = x.2 - 1 - x.1 := by omega
    refine ⟨⟨by omega, by omega, by omega, by omega⟩, ?_⟩
    refine forL_ind (fun m e M2 => ∃ acc2 : List Nat, Sub M M2 ∧ M2 p = some (.lst ((acc ++ acc2).map nW)) ∧ M2 r = some (.lst ((St cs).map pW)) ∧ acc2 = (((List.range (x.2 - 1 - x.1)).take m).filter fun j => dif cs (x.1 + j)).map (x.1 + ·) ∧ acc2.length ≤ m ∧ ∃ d, e = [some (csW cs), some (.ref p), some (.int (x.1 : Nat)), some (.int (x.2 : Nat)), d]) _ 0 _ _ ⟨[], sM, by rw [List.append_nil]; exact h1, h2, rfl, Nat.le_refl _, d, rfl⟩ ?_ ?_
    · rintro j w e M2 k2 hw ⟨acc2, sM2, g1, g2, g3, g4, d, rfl⟩ hn2
      unfold rgW at hw
      rw [e1] at hw
      obtain ⟨j', hj', rfl⟩ := map_inv hw
      have hj0 := (List.getElem?_eq_some_iff.mp hj').1
      rw [List.length_range] at hj0
      rw [List.getElem?_range hj0] at hj'
      cases hj'
      obtain ⟨y, z, hy, hz, sy, sz⟩ := two_ins hp2 hj0
      have ej : ((x.1 : Nat) : Int) + (j : Nat) = ((x.1 + j : Nat) : Int) := by omega
      have ej1 : ((x.1 + j : Nat) : Int) + 1 = ((x.1 + j + 1 : Nat) : Int) := by omega
      refine ⟨trivial, _, rfl, ?_⟩
      simp only [mDef, mSeq, mIfS, mVal, mNot, mAnd, mOr, mAndV, mOrV, mNotV, mIf, mOp, mChain, mVar, mC, mTup, mLst, mArgs, mCall, mFn, mDGet, mAsg, mRet, mNext, mRaise, mDrop, mIsi, bindT, setAll, startM, List.map_cons, List.map_nil, List.length_cons, List.length_nil, List.replicate, List.cons_append, List.nil_append, List.getElem?_cons_zero, List.getElem?_cons_succ, List.set_cons_succ, List.set_cons_zero, Nat.zero_add, Nat.reduceAdd, Nat.reduceSub, fII, fIIc, fLt, fLe, fGt, fGe, fSub, fMul, fDiv, fMod, fPow, fAdd_int, fLen, items, if_true, fEq_int, fNe_int, fEq_str, fNe_str, List.length_map, mFor, miEnum, miSeq, miRg1, miRg2, mLc, wipeM, mYes, mIsN, mNotN, mMeth, mNeg, mSl, mPart, fSl, fTuple, fList, mBrk, fI1, fI2, ej, ej1, csW, fIx_map hy, fIx_map hz, fIx0, hd_ins sy, hd_ins sz]
      rw [← dif_is hy hz]
      rw [Nat.zero_add] at g3 g4 hn2
      have ej2 : (List.range (x.2 - 1 - x.1))[j]? = some j := List.getElem?_range hj0
      have li : (lstAt M2 (.ref p)).isSome = true := by simp only [lstAt, g1]; rfl
      cases hd : dif cs (x.1 + j) with
      | true =>
        refine iteY rfl ⟨li, app_ok g1 (by simp only [List.length_map, List.length_append]; have := Nat.mul_le_mul_right 1000 (show i ≤ 1000 by omega); omega) (hn2 _ _ ⟨acc2 ++ [x.1 + j], sub_keep sM2 hp, ?_, ?_, ?_, ?_, _, rfl⟩)⟩
        · rw [updM_same, ← List.append_assoc, List.map_append (l₁ := acc ++ acc2)]
          rfl
        · rw [updM_ne pr.symm]; exact g2
        · rw [take_next ej2, List.filter_append, List.map_append, g3]
          simp [hd]
        · simp; omega
      | false =>
        refine iteN (by decide) (hn2 _ _ ⟨acc2, sM2, g1, g2, ?_, by omega, _, rfl⟩)
        rw [take_next ej2, List.filter_append, List.map_append, g3]
        simp [hd]
    · rintro e M2 ⟨acc2, sM2, g1, g2, g3, g4, d, rfl⟩
      refine ⟨trivial, hn _ _ ⟨acc ++ acc2, sM2, g1, g2, ?_, ?_, _, _, _, rfl⟩⟩
      · have ll : (rgW (x.1 : Nat) ((x.2 : Nat) - 1)).length = x.2 - 1 - x.1 := by unfold rgW; rw [List.length_map, List.length_range, e1]
        rw [ll, Nat.zero_add, List.take_of_length_le (by rw [List.length_range]; exact Nat.le_refl _), ← spotL_is] at g3
        rw [take_next hx, List.flatMap_append, h3, g3]
        simp
      · have ll : (rgW (x.1 : Nat) ((x.2 : Nat) - 1)).length = x.2 - 1 - x.1 := by unfold rgW; rw [List.length_map, List.length_range, e1]
        rw [List.length_append, Nat.succ_mul]
        omega
  · rintro e M' ⟨acc, sM, h1, h2, h3, h4, a, b, d, rfl⟩
    refine ⟨h2, ?_⟩
    rw [List.length_map, Nat.zero_add, List.take_length] at h3
    have h3 : acc = spots cs := h3
    subst h3
    exact fg_at hp sM h1 k
end
end K75


set_option Elab.async false
set_option linter.all false
set_option maxRecDepth 100000
set_option maxHeartbeats 8000000
namespace K75
open PySem PySem.Spec PyProof.Rows L2 ML
/-! # sorted, exchanged -/
def Code.put (c : Code) (cs : List Cell) : Code := { c with cells := cs }
theorem keysW_ins : ∀ {cs : List Cell}, (∀ c ∈ cs, c.isS = false) → keysW (cs.map Cell.w) = some (cs.map Cell.hue)
  | [], _ => rfl
  | .ins h i :: cs, k => by
    show (keysW (cs.map Cell.w)).map (h :: ·) = _
    rw [keysW_ins fun c hc => k c (List.mem_cons_of_mem _ hc)]
    rfl
  | .thr _ _ _ :: _, k => by have := k _ List.mem_cons_self; cases this
  | .goto _ :: _, k => by have := k _ List.mem_cons_self; cases this
  | .one _ :: _, k => by have := k _ List.mem_cons_self; cases this
theorem insK_map {α β : Type} (f : α → β) (p : Int × α) : ∀ l : List (Int × α), insK (p.1, f p.2) (l.map fun q => (q.1, f q.2)) = (insK p l).map fun q => (q.1, f q.2)
  | [] => rfl
  | q :: r => by
    show (if p.1 ≤ q.1 then (p.1, f p.2) :: (q.1, f q.2) :: r.map (fun q => (q.1, f q.2)) else (q.1, f q.2) :: insK (p.1, f p.2) (r.map fun q => (q.1, f q.2))) = (if p.1 ≤ q.1 then p :: q :: r else q :: insK p r).map _
    split
    · rfl
    · rw [insK_map f p r]; rfl
theorem isK_map {α β : Type} (f : α → β) : ∀ l : List (Int × α), isK (l.map fun q => (q.1, f q.2)) = (isK l).map fun q => (q.1, f q.2)
  | [] => rfl
  | q :: r => by
    show insK (q.1, f q.2) (isK (r.map fun q => (q.1, f q.2))) = (insK q (isK r)).map _
    rw [isK_map f r, insK_map]
theorem sortK_cells (cs : List Cell) : sortK (cs.map Cell.hue) (cs.map Cell.w) = (sortC cs).map Cell.w := by
  unfold sortC sortK
  have : (cs.map Cell.hue).zip (cs.map Cell.w) = ((cs.map Cell.hue).zip cs).map fun q => (q.1, q.2.w) := by
    rw [zip_hue, List.map_map]
    induction cs with
    | nil => rfl
    | cons c cs ih => rw [List.map_cons, List.map_cons, List.zip_cons_cons, ih]; rfl
  rw [this, isK_map, List.map_map, List.map_map]
  rfl
theorem ordL_len : ∀ (L : List (Nat × Nat)) (cs : List Cell), (∀ p ∈ L, p.1 < p.2 ∧ p.2 ≤ cs.length) → (ordL L cs).length = cs.length
  | [], _, _ => rfl
  | p :: L, cs, h => by
    obtain ⟨a, b⟩ := h p List.mem_cons_self
    have e := setSl_length (f := p.1) (e := p.2) (cs := cs) (by rw [sortC_length, slice_length b]) (Nat.le_of_lt a) b
    have : ordL (p :: L) cs = ordL L (setSl p.1 p.2 (sortC (slice p.1 p.2 cs)) cs) := rfl
    rw [this, ordL_len L _ fun q hq => by rw [e]; exact h q (List.mem_cons_of_mem _ hq), e]
theorem ordL_slice {q : Nat × Nat} : ∀ (L : List (Nat × Nat)) (cs : List Cell), (∀ p ∈ L, p.1 < p.2 ∧ p.2 ≤ cs.length ∧ p.2 ≤ q.1) → slice q.1 q.2 (ordL L cs) = slice q.1 q.2 cs
  | [], _, _ => rfl
  | p :: L, cs, h => by
    obtain ⟨a, b, c⟩ := h p List.mem_cons_self
    have hv : (sortC (slice p.1 p.2 cs)).length = p.2 - p.1 := by rw [sortC_length, slice_length b]
    have e := setSl_length (cs := cs) hv (Nat.le_of_lt a) b
    have : ordL (p :: L) cs = ordL L (setSl p.1 p.2 (sortC (slice p.1 p.2 cs)) cs) := rfl
    rw [this, ordL_slice L _ fun q hq => by rw [e]; exact h q (List.mem_cons_of_mem _ hq)]
    apply List.ext_getElem?
    intro i
    rw [slice_get, slice_get]
    split
    · rw [setSl_get hv (Nat.le_of_lt a) b, if_neg (by omega)]
    · rfl
theorem ordL_next {L : List (Nat × Nat)} {p : Nat × Nat} {cs : List Cell} : ordL (L ++ [p]) cs = setSl p.1 p.2 (sortC (slice p.1 p.2 (ordL L cs))) (ordL L cs) := by
  unfold ordL
  rw [List.foldl_append]
  rfl
theorem ahead_le {cs : List Cell} {i : Nat} {x : Nat × Nat} (h : (St cs)[i]? = some x) : ∀ p ∈ (St cs).take i, p.1 < p.2 ∧ p.2 ≤ cs.length ∧ p.2 ≤ x.1 := fun p hp => by
  have g := St_good cs
  have g1 := g.each p (List.mem_of_mem_take hp)
  refine ⟨g1.2.1, g1.2.2.1, ?_⟩
  have pw := g.pw
  have d : St cs = (St cs).take i ++ x :: (St cs).drop (i + 1) := by rw [← drop_at h, List.take_append_drop]
  rw [d, List.pairwise_append] at pw
  exact pw.2.2 p hp x List.mem_cons_self
theorem swap_eq {cs : List Cell} {a : Nat} {x y : Cell} (hx : cs[a]? = some x) (hy : cs[a + 1]? = some y) : swapAt a cs = cs.take a ++ y :: x :: cs.drop (a + 2) := by
  unfold swapAt
  rw [hx, hy]
theorem put_w {c : Code} {cs : List Cell} : (c.put cs).w = .tup [isW c.votes, .int c.size, .tup (cs.map Cell.w), isW c.bank] := rfl
theorem cut_takeI {ws : List W} {n : Nat} {i : Int} (e : i = (n : Int)) (h : n ≤ ws.length) : cutW ws none (some i) = ws.take n := by subst e; exact cut_take h
theorem cut_dropI {ws : List W} {n : Nat} {i : Int} (e : i = (n : Int)) (h : n ≤ ws.length) : cutW ws (some i) none = ws.drop n := by subst e; exact cut_drop h
theorem spots_two {cs : List Cell} {a : Nat} (h : a ∈ spots cs) : ∃ x y, cs[a]? = some x ∧ cs[a + 1]? = some y ∧ x.isS = false ∧ y.isS = false := by
  obtain ⟨_, _, ⟨x, hx, sx⟩, ⟨y, hy, sy⟩⟩ := (spots_inner h).1
  exact ⟨x, y, hx, hy, sx, sy⟩
theorem inW_spots {M : Mh} {r : Addr} {cs : List Cell} {i : Int} (hr : M r = some (.lst ((spots cs).map nW))) : inW M (.int i) (.ref r) = some (decide (∃ n ∈ spots cs, i = (n : Nat))) := by
  have e : (spots cs).map nW = ((spots cs).map fun n : Nat => (n : Int)).map W.int := by rw [List.map_map]; rfl
  rw [e] at hr
  rw [inW_ints hr]
  congr 1
  rw [Bool.eq_iff_iff, decide_eq_true_eq, decide_eq_true_eq, List.mem_map]
  exact ⟨fun ⟨n, h, z⟩ => ⟨n, h, z.symm⟩, fun ⟨n, h, z⟩ => ⟨n, h, z.symm⟩⟩
theorem fTuple_of {M : Mh} {v : W} {xs : List W} {R : MK} (h : items M v = some xs) (k : R (.tup xs) M) : fTuple [v] M R := by
  simp only [fTuple, h]
  exact k
section
variable {q : Ads} {RX : MX} {M : Mh} {R : MK}
theorem L_with_cells {c : Code} {cs : List Cell} {v : W} (hv : items M v = some (cs.map Cell.w)) (k : R (c.put cs).w M) : sp_with_cells q RX [c.w, v] M R := by
  rw [un_with_cells]
  simp only [mDef, mSeq, mIfS, mVal, mNot, mAnd, mOr, mAndV, mOrV, mNotV, mIf, mOp, mChain, mVar, mC, mTup, mLst, mArgs, mCall, mFn, mDGet, mAsg, mRet, mNext, mRaise, mDrop, mIsi, bindT, setAll, startM, List.map_cons, List.map_nil, List.length_cons, List.length_nil, List.replicate, List.cons_append, List.nil_append, List.getElem?_cons_zero, List.getElem?_cons_succ, List.set_cons_succ, List.set_cons_zero, Nat.zero_add, Nat.reduceAdd, Nat.reduceSub, fII, fIIc, fLt, fLe, fGt, fGe, fSub, fMul, fDiv, fMod, fPow, fAdd_int, fLen, items, if_true, fEq_int, fNe_int, fEq_str, fNe_str, List.length_map, mFor, miEnum, miSeq, miRg1, miRg2, mLc, wipeM, mYes, mIsN, mNotN, mMeth, mNeg, mSl, mPart, fSl, fList, mBrk, fI1, fI2, fIx_c0, fIx_c1, fIx_c3]
  exact fTuple_of hv (fg_of k)
theorem exchange_tup {cs : List Cell} {a : Nat} {R : MK} {M : Mh} {x y : Cell} (hl : cs.length ≤ 1000) (hx : cs[a]? = some x) (hy : cs[a + 1]? = some y) (k : R (.tup ((swapAt a cs).map Cell.w)) M) :
    fAdd (.tup (cutW (cs.map Cell.w) none (some (a : Int)))) (.tup [y.w, x.w]) M fun w M1 => fAdd w (.tup (cutW (cs.map Cell.w) (some ((a : Int) + 2)) none)) M1 R := by
  have h1 := (List.getElem?_eq_some_iff.mp hy).1
  rw [cut_take (by rw [List.length_map]; omega), cut_dropI (n := a + 2) (by omega) (by rw [List.length_map]; omega)]
  refine cat_tup (by simp; omega) (cat_tup (by simp; omega) ?_)
  have : (cs.map Cell.w).take a ++ [y.w, x.w] ++ (cs.map Cell.w).drop (a + 2) = (swapAt a cs).map Cell.w := by
    rw [swap_eq hx hy, List.map_append, List.map_cons, List.map_cons, List.map_take, List.map_drop]
    simp
  rw [this]
  exact k
theorem L_exchanged {c : Code} (h : Cd c) {a : Nat} (ha : a ∈ spots c.cells) (k : R (c.put (swapAt a c.cells)).w M) : sp_exchanged q RX [c.w, .int a] M R := by
  rw [un_exchanged]
  simp only [mDef, mSeq, mIfS, mVal, mNot, mAnd, mOr, mAndV, mOrV, mNotV, mIf, mOp, mChain, mVar, mC, mTup, mLst, mArgs, mCall, mFn, mDGet, mAsg, mRet, mNext, mRaise, mDrop, mIsi, bindT, setAll, startM, List.map_cons, List.map_nil, List.length_cons, List.length_nil, List.replicate, List.cons_append, List.nil_append, List.getElem?_cons_zero, List.getElem?_cons_succ, List.set_cons_succ, List.set_cons_zero, Nat.zero_add, Nat.reduceAdd, Nat.reduceSub, fII, fIIc, fLt, fLe, fGt, fGe, fSub, fMul, fDiv, fMod, fPow, fAdd_int, fLen, items, if_true, fEq_int, fNe_int, fEq_str, fNe_str, List.length_map, mFor, miEnum, miSeq, miRg1, miRg2, mLc, wipeM, mYes, mIsN, mNotN, mMeth, mNeg, mSl, mPart, fSl, fList, mBrk, fI1, fI2, fIx_c2, items_cs]
  obtain ⟨x, y, hx, hy, _, _⟩ := spots_two ha
  have h1 := (List.getElem?_eq_some_iff.mp hy).1
  refine L_need_code h (L_is_from rfl ?_)
  have e1 : fromB (.int a) 0 ((((c.cells.map Cell.w).length : Nat) : Int) - 1) = true := by unfold fromB; simp; omega
  rw [e1]
  refine iteN (by decide) (L_exchange_spots (by have := h.len; omega) fun r hr => ?_)
  refine fNotIn_of (inW_spots updM_same) ?_
  rw [decide_eq_true ⟨a, ha, rfl⟩]
  refine iteN (by decide) ?_
  have ea : (a : Int) + 1 = ((a + 1 : Nat) : Int) := by omega
  simp only [csW, ea, fIx_map hx, fIx_map hy]
  refine exchange_tup (by have := h.len; omega) hx hy ?_
  refine L_with_cells rfl ?_
  exact fg_sub (sub_new hr) k
theorem X_exchanged {c : Code} (h : Cd c) {v : W} (hv : (tyW M v).isSome = true) (hn : ∀ a ∈ spots c.cells, v ≠ .int (a : Nat)) (k : RX q.BadAddress M) : sp_exchanged q RX [c.w, v] M R := by
  rw [un_exchanged]
  simp only [mDef, mSeq, mIfS, mVal, mNot, mAnd, mOr, mAndV, mOrV, mNotV, mIf, mOp, mChain, mVar, mC, mTup, mLst, mArgs, mCall, mFn, mDGet, mAsg, mRet, mNext, mRaise, mDrop, mIsi, bindT, setAll, startM, List.map_cons, List.map_nil, List.length_cons, List.length_nil, List.replicate, List.cons_append, List.nil_append, List.getElem?_cons_zero, List.getElem?_cons_succ, List.set_cons_succ, List.set_cons_zero, Nat.zero_add, Nat.reduceAdd, Nat.reduceSub, fII, fIIc, fLt, fLe, fGt, fGe, fSub, fMul, fDiv, fMod, fPow, fAdd_int, fLen, items, if_true, fEq_int, fNe_int, fEq_str, fNe_str, List.length_map, mFor, miEnum, miSeq, miRg1, miRg2, mLc, wipeM, mYes, mIsN, mNotN, mMeth, mNeg, mSl, mPart, fSl, fList, mBrk, fI1, fI2, fIx_c2, items_cs]
  refine L_need_code h (L_is_from hv ?_)
  cases e : fromB v 0 ((((c.cells.map Cell.w).length : Nat) : Int) - 1) with
  | false => exact iteY (by decide) ⟨M, Sub.refl, k⟩
  | true =>
    refine iteN (by decide) (L_exchange_spots (by have := h.len; omega) fun r hr => ?_)
    cases v with
    | int i =>
      refine fNotIn_of (inW_spots updM_same) ?_
      rw [decide_eq_false fun ⟨a, ha, e⟩ => hn a ha (by rw [e])]
      exact iteY (by decide) ⟨M, sub_new hr, k⟩
    | _ => cases e
theorem X_exchanged_no {v u : W} (h : NoC M v) (k : RX q.BadCode M) : sp_exchanged q RX [v, u] M R := by
  rw [un_exchanged]
  simp only [mDef, mSeq, mIfS, mVal, mNot, mAnd, mOr, mAndV, mOrV, mNotV, mIf, mOp, mChain, mVar, mC, mTup, mLst, mArgs, mCall, mFn, mDGet, mAsg, mRet, mNext, mRaise, mDrop, mIsi, bindT, setAll, startM, List.map_cons, List.map_nil, List.length_cons, List.length_nil, List.replicate, List.cons_append, List.nil_append, List.getElem?_cons_zero, List.getElem?_cons_succ, List.set_cons_succ, List.set_cons_zero, Nat.zero_add, Nat.reduceAdd, Nat.reduceSub, fII, fIIc, fLt, fLe, fGt, fGe, fSub, fMul, fDiv, fMod, fPow, fAdd_int, fLen, items, if_true, fEq_int, fNe_int, fEq_str, fNe_str, List.length_map, mFor, miEnum, miSeq, miRg1, miRg2, mLc, wipeM, mYes, mIsN, mNotN, mMeth, mNeg, mSl, mPart, fSl, fList, mBrk, fI1, fI2]
  exact X_need_code h ⟨M, Sub.refl, k⟩
theorem L_mk_swapped {c : Code} (hl : c.cells.length ≤ 1000) {a : Nat} (ha : a ∈ spots c.cells) (k : R (c.put (swapAt a c.cells)).w M) : sp__law_mk_swapped q RX [c.w, .int a] M R := by
  rw [un__law_mk_swapped]
  obtain ⟨x, y, hx, hy, _, _⟩ := spots_two ha
  have ea : (a : Int) + 1 = ((a + 1 : Nat) : Int) := by omega
  simp only [mDef, mSeq, mIfS, mVal, mNot, mAnd, mOr, mAndV, mOrV, mNotV, mIf, mOp, mChain, mVar, mC, mTup, mLst, mArgs, mCall, mFn, mDGet, mAsg, mRet, mNext, mRaise, mDrop, mIsi, bindT, setAll, startM, List.map_cons, List.map_nil, List.length_cons, List.length_nil, List.replicate, List.cons_append, List.nil_append, List.getElem?_cons_zero, List.getElem?_cons_succ, List.set_cons_succ, List.set_cons_zero, Nat.zero_add, Nat.reduceAdd, Nat.reduceSub, fII, fIIc, fLt, fLe, fGt, fGe, fSub, fMul, fDiv, fMod, fPow, fAdd_int, fLen, items, if_true, fEq_int, fNe_int, fEq_str, fNe_str, List.length_map, mFor, miEnum, miSeq, miRg1, miRg2, mLc, wipeM, mYes, mIsN, mNotN, mMeth, mNeg, mSl, mPart, fSl, fList, mBrk, fI1, fI2, fIx_c0, fIx_c1, fIx_c2, fIx_c3, csW, ea, fIx_map hx, fIx_map hy]
  refine exchange_tup hl hx hy ?_
  exact fg_of k
theorem L_sorted {c : Code} (hl : c.cells.length ≤ 1000) (k : R (c.put (ord c.cells)).w M) : sp_sorted_code q RX [c.w] M R := by
  rw [un_sorted_code]
  simp only [mDef, mSeq, mIfS, mVal, mNot, mAnd, mOr, mAndV, mOrV, mNotV, mIf, mOp, mChain, mVar, mC, mTup, mLst, mArgs, mCall, mFn, mDGet, mAsg, mRet, mNext, mRaise, mDrop, mIsi, bindT, setAll, startM, List.map_cons, List.map_nil, List.length_cons, List.length_nil, List.replicate, List.cons_append, List.nil_append, List.getElem?_cons_zero, List.getElem?_cons_succ, List.set_cons_succ, List.set_cons_zero, Nat.zero_add, Nat.reduceAdd, Nat.reduceSub, fII, fIIc, fLt, fLe, fGt, fGe, fSub, fMul, fDiv, fMod, fPow, fAdd_int, fLen, items, if_true, fEq_int, fNe_int, fEq_str, fNe_str, List.length_map, mFor, miEnum, miSeq, miRg1, miRg2, mLc, wipeM, mYes, mIsN, mNotN, mMeth, mNeg, mSl, mPart, fSl, fList, mBrk, fI1, fI2, fIx_c2, items_cs]
  intro p hp
  refine L_stretch_list hl fun r hr => ?_
  simp only [updM_same]
  have pr : p ≠ r := ne_of_noneM updM_same hr
  refine forL_ind (fun n e M' => Sub M M' ∧ M' p = some (.lst ((ordL ((St c.cells).take n) c.cells).map Cell.w)) ∧ M' r = some (.lst ((St c.cells).map pW)) ∧ ∃ a b d, e = [some c.w, some (.ref p), a, b, d]) _ 0 _ _ ⟨(sub_new hp).new hr, by rw [updM_ne pr, updM_same]; rfl, updM_same, none, none, none, rfl⟩ ?_ ?_
  · rintro i w e M' kk hw ⟨sM, h1, h2, a, b, d, rfl⟩ hn
    obtain ⟨x, hx, rfl⟩ := map_inv hw
    rw [Nat.zero_add] at h1 hn
    have hp2 := List.mem_of_getElem? hx
    have g := (St_good c.cells).each x hp2
    have ah := ahead_le hx
    have sl' := ordL_slice (q := x) _ _ ah
    have ln := ordL_len ((St c.cells).take i) c.cells fun p hp => ⟨(ah p hp).1, (ah p hp).2.1⟩
    refine ⟨h2, _, rfl, ?_⟩
    simp only [mDef, mSeq, mIfS, mVal, mNot, mAnd, mOr, mAndV, mOrV, mNotV, mIf, mOp, mChain, mVar, mC, mTup, mLst, mArgs, mCall, mFn, mDGet, mAsg, mRet, mNext, mRaise, mDrop, mIsi, bindT, setAll, startM, List.map_cons, List.map_nil, List.length_cons, List.length_nil, List.replicate, List.cons_append, List.nil_append, List.getElem?_cons_zero, List.getElem?_cons_succ, List.set_cons_succ, List.set_cons_zero, Nat.zero_add, Nat.reduceAdd, Nat.reduceSub, fII, fIIc, fLt, fLe, fGt, fGe, fSub, fMul, fDiv, fMod, fPow, fAdd_int, fLen, items, if_true, fEq_int, fNe_int, fEq_str, fNe_str, List.length_map, mFor, miEnum, miSeq, miRg1, miRg2, mLc, wipeM, mYes, mIsN, mNotN, mMeth, mNeg, mSl, mPart, fSl, fList, mBrk, fI1, fI2, mSortK, mPutSl, h1]
    rw [cut_slice (Nat.le_of_lt g.2.1) (by rw [ln]; exact g.2.2.1), sl']
    intro t ht
    have pt : p ≠ t := ne_of_noneM h1 ht
    have rt : r ≠ t := ne_of_noneM h2 ht
    simp only [lstAt, updM_same, keysW_ins (slice_ins hp2), sortK_cells]
    intro u hu
    have pu : p ≠ u := ne_of_noneM (by rw [updM_ne pt]; exact h1) hu
    have ru : r ≠ u := ne_of_noneM (by rw [updM_ne rt]; exact h2) hu
    refine ⟨pu, ?_⟩
    simp only [updM_same, updM_ne pu, updM_ne pt, h1]
    refine ⟨by omega, by omega, by rw [List.length_map, ln]; omega, by rw [sizeLine_eq, List.length_map, List.length_map, ln, sortC_length, slice_length g.2.2.1]; omega, hn _ _ ⟨sub_keep ((sM.new ht).new hu) hp, ?_, ?_, _, _, _, rfl⟩⟩
    · rw [updM_same, take_next hx, ordL_next, sl']
      unfold setSl
      rw [List.map_append, List.map_append, List.map_take, List.map_drop]
      rfl
    · rw [updM_ne pr.symm, updM_ne ru, updM_ne rt]; exact h2
  · rintro e M' ⟨sM, h1, h2, a, b, d, rfl⟩
    refine ⟨h2, ?_⟩
    rw [List.length_map, Nat.zero_add, List.take_length] at h1
    simp only [mDef, mSeq, mIfS, mVal, mNot, mAnd, mOr, mAndV, mOrV, mNotV, mIf, mOp, mChain, mVar, mC, mTup, mLst, mArgs, mCall, mFn, mDGet, mAsg, mRet, mNext, mRaise, mDrop, mIsi, bindT, setAll, startM, List.map_cons, List.map_nil, List.length_cons, List.length_nil, List.replicate, List.cons_append, List.nil_append, List.getElem?_cons_zero, List.getElem?_cons_succ, List.set_cons_succ, List.set_cons_zero, Nat.zero_add, Nat.reduceAdd, Nat.reduceSub, fII, fIIc, fLt, fLe, fGt, fGe, fSub, fMul, fDiv, fMod, fPow, fAdd_int, fLen, items, if_true, fEq_int, fNe_int, fEq_str, fNe_str, List.length_map, mFor, miEnum, miSeq, miRg1, miRg2, mLc, wipeM, mYes, mIsN, mNotN, mMeth, mNeg, mSl, mPart, fSl, fList, mBrk, fI1, fI2]
    refine L_with_cells (cs := ord c.cells) (by simp only [items, h1]; rfl) ?_
    exact fg_sub sM k
theorem L_mk_ordered {c : Code} (hl : c.cells.length ≤ 1000) (k : R (c.put (ord c.cells)).w M) : sp__law_mk_ordered q RX [c.w] M R := by
  rw [un__law_mk_ordered]
  simp only [mDef, mSeq, mIfS, mVal, mNot, mAnd, mOr, mAndV, mOrV, mNotV, mIf, mOp, mChain, mVar, mC, mTup, mLst, mArgs, mCall, mFn, mDGet, mAsg, mRet, mNext, mRaise, mDrop, mIsi, bindT, setAll, startM, List.map_cons, List.map_nil, List.length_cons, List.length_nil, List.replicate, List.cons_append, List.nil_append, List.getElem?_cons_zero, List.getElem?_cons_succ, List.set_cons_succ, List.set_cons_zero, Nat.zero_add, Nat.reduceAdd, Nat.reduceSub, fII, fIIc, fLt, fLe, fGt, fGe, fSub, fMul, fDiv, fMod, fPow, fAdd_int, fLen, items, if_true, fEq_int, fNe_int, fEq_str, fNe_str, List.length_map, mFor, miEnum, miSeq, miRg1, miRg2, mLc, wipeM, mYes, mIsN, mNotN, mMeth, mNeg, mSl, mPart, fSl, fList, mBrk, fI1, fI2, fIx_c2, items_cs]
  intro p hp
  refine L_mk_stretches hl fun r hr => ?_
  simp only [updM_same]
  have pr : p ≠ r := ne_of_noneM updM_same hr
  refine forL_ind (fun n e M' => Sub M M' ∧ M' p = some (.lst ((ordL ((St c.cells).take n) c.cells).map Cell.w)) ∧ M' r = some (.lst ((St c.cells).map pW)) ∧ ∃ a b, e = [some c.w, some (.ref p), a, b]) _ 0 _ _ ⟨(sub_new hp).new hr, by rw [updM_ne pr, updM_same]; rfl, updM_same, none, none, rfl⟩ ?_ ?_
  · rintro i w e M' kk hw ⟨sM, h1, h2, a, b, rfl⟩ hn
    obtain ⟨x, hx, rfl⟩ := map_inv hw
    rw [Nat.zero_add] at h1 hn
    have hp2 := List.mem_of_getElem? hx
    have g := (St_good c.cells).each x hp2
    have ah := ahead_le hx
    have sl' := ordL_slice (q := x) _ _ ah
    have ln := ordL_len ((St c.cells).take i) c.cells fun p hp => ⟨(ah p hp).1, (ah p hp).2.1⟩
    refine ⟨h2, _, rfl, ?_⟩
    simp only [mDef, mSeq, mIfS, mVal, mNot, mAnd, mOr, mAndV, mOrV, mNotV, mIf, mOp, mChain, mVar, mC, mTup, mLst, mArgs, mCall, mFn, mDGet, mAsg, mRet, mNext, mRaise, mDrop, mIsi, bindT, setAll, startM, List.map_cons, List.map_nil, List.length_cons, List.length_nil, List.replicate, List.cons_append, List.nil_append, List.getElem?_cons_zero, List.getElem?_cons_succ, List.set_cons_succ, List.set_cons_zero, Nat.zero_add, Nat.reduceAdd, Nat.reduceSub, fII, fIIc, fLt, fLe, fGt, fGe, fSub, fMul, fDiv, fMod, fPow, fAdd_int, fLen, items, if_true, fEq_int, fNe_int, fEq_str, fNe_str, List.length_map, mFor, miEnum, miSeq, miRg1, miRg2, mLc, wipeM, mYes, mIsN, mNotN, mMeth, mNeg, mSl, mPart, fSl, fList, mBrk, fI1, fI2, mSortK, mPutSl, h1]
    rw [cut_slice (Nat.le_of_lt g.2.1) (by rw [ln]; exact g.2.2.1), sl']
    intro t ht
    have pt : p ≠ t := ne_of_noneM h1 ht
    have rt : r ≠ t := ne_of_noneM h2 ht
    simp only [lstAt, updM_same, keysW_ins (slice_ins hp2), sortK_cells]
    intro u hu
    have pu : p ≠ u := ne_of_noneM (by rw [updM_ne pt]; exact h1) hu
    have ru : r ≠ u := ne_of_noneM (by rw [updM_ne rt]; exact h2) hu
    refine ⟨pu, ?_⟩
    simp only [updM_same, updM_ne pu, updM_ne pt, h1]
    refine ⟨by omega, by omega, by rw [List.length_map, ln]; omega, by rw [sizeLine_eq, List.length_map, List.length_map, ln, sortC_length, slice_length g.2.2.1]; omega, hn _ _ ⟨sub_keep ((sM.new ht).new hu) hp, ?_, ?_, _, _, rfl⟩⟩
    · rw [updM_same, take_next hx, ordL_next, sl']
      unfold setSl
      rw [List.map_append, List.map_append, List.map_take, List.map_drop]
      rfl
    · rw [updM_ne pr.symm, updM_ne ru, updM_ne rt]; exact h2
  · rintro e M' ⟨sM, h1, h2, a, b, rfl⟩
    refine ⟨h2, ?_⟩
    rw [List.length_map, Nat.zero_add, List.take_length] at h1
    simp only [mDef, mSeq, mIfS, mVal, mNot, mAnd, mOr, mAndV, mOrV, mNotV, mIf, mOp, mChain, mVar, mC, mTup, mLst, mArgs, mCall, mFn, mDGet, mAsg, mRet, mNext, mRaise, mDrop, mIsi, bindT, setAll, startM, List.map_cons, List.map_nil, List.length_cons, List.length_nil, List.replicate, List.cons_append, List.nil_append, List.getElem?_cons_zero, List.getElem?_cons_succ, List.set_cons_succ, List.set_cons_zero, Nat.zero_add, Nat.reduceAdd, Nat.reduceSub, fII, fIIc, fLt, fLe, fGt, fGe, fSub, fMul, fDiv, fMod, fPow, fAdd_int, fLen, items, if_true, fEq_int, fNe_int, fEq_str, fNe_str, List.length_map, mFor, miEnum, miSeq, miRg1, miRg2, mLc, wipeM, mYes, mIsN, mNotN, mMeth, mNeg, mSl, mPart, fSl, fList, mBrk, fI1, fI2, fIx_c0, fIx_c1, fIx_c3]
    exact fTuple_of (xs := (ord c.cells).map Cell.w) (by simp only [items, h1]; rfl) (fg_sub sM k)
end
end K75


set_option Elab.async false
set_option linter.all false
set_option maxRecDepth 100000
set_option maxHeartbeats 8000000
namespace K75
open PySem PySem.Spec PyProof.Rows L2 ML
/-! # schedules -/
theorem Two.inj {a b : Two} (h : a.nm = b.nm) : a = b := by
  cases a <;> cases b <;> first | rfl | (exfalso; revert h; decide)
theorem Bk.inj {a b : Bk} (h : a.nm = b.nm) : a = b := by
  cases a <;> cases b <;> first | rfl | (exfalso; revert h; decide)
theorem Th.inj {a b : Th} (h : a.nm = b.nm) : a = b := by
  cases a <;> cases b <;> first | rfl | (exfalso; revert h; decide)
theorem On.inj {a b : On} (h : a.nm = b.nm) : a = b := by
  cases a <;> cases b <;> first | rfl | (exfalso; revert h; decide)
theorem Ins.ws_inj {i j : Ins} (h : i.ws = j.ws) : i = j := by
  cases i <;> cases j <;> simp only [Ins.ws, List.cons.injEq, W.int.injEq, W.str.injEq, List.cons_ne_nil, List.nil_eq, reduceCtorEq, and_false, and_true, and_self] at h
  · obtain ⟨rfl, rfl⟩ := h.2; rfl
  · obtain ⟨a, rfl, rfl, rfl⟩ := h; rw [Two.inj a]
  · obtain ⟨a, rfl, rfl, rfl, rfl⟩ := h; rw [Bk.inj a]
  · rw [h.2]
theorem Cell.w_inj {x y : Cell} (h : x.w = y.w) : x = y := by
  cases x <;> cases y <;> simp only [Cell.w, W.tup.injEq, List.cons.injEq, W.int.injEq, W.str.injEq, List.cons_ne_nil, List.nil_eq, reduceCtorEq, false_and, and_false, and_true, and_self] at h
  · obtain ⟨rfl, h⟩ := h; rw [Ins.ws_inj h]
  · obtain ⟨a, rfl, rfl⟩ := h; rw [Th.inj a]
  · rw [h.2]
  · rw [On.inj h]
theorem map_inj {α : Type} {f : α → W} (hf : ∀ x y, f x = f y → x = y) : ∀ {l m : List α}, l.map f = m.map f → l = m
  | [], [], _ => rfl
  | [], _ :: _, h => by cases h
  | _ :: _, [], h => by cases h
  | x :: l, y :: m, h => by
    rw [List.map_cons, List.map_cons, List.cons.injEq] at h
    rw [hf x y h.1, map_inj hf h.2]
theorem Code.w_inj {c d : Code} (h : c.w = d.w) : c = d := by
  obtain ⟨a, b, e, f⟩ := c
  obtain ⟨a', b', e', f'⟩ := d
  simp only [Code.w, isW, csW, W.tup.injEq, List.cons.injEq, W.int.injEq, and_true] at h
  obtain ⟨h1, rfl, h3, h4⟩ := h
  rw [map_inj (fun x y z => by cases z; rfl) h1, map_inj (fun x y => Cell.w_inj) h3, map_inj (fun x y z => by cases z; rfl) h4]
theorem pls_map {α : Type} {f : α → W} (h : ∀ x, pl (f x) = true) (l : List α) : pls (l.map f) = true := by
  rw [pls_iff]
  intro w hw
  obtain ⟨x, _, rfl⟩ := List.mem_map.mp hw
  exact h x
theorem dps_map {α : Type} {f : α → W} {n : Nat} (h : ∀ x, dpW (f x) ≤ n) (l : List α) : dpWs (l.map f) ≤ n := dps_le fun w hw => by
  obtain ⟨x, _, rfl⟩ := List.mem_map.mp hw
  exact h x
theorem enumW_zip0 {α : Type} (g : α → W) (l : List α) : enumW 0 (l.map g) = l.zipIdx.map fun x => .tup [.int (x.2 : Nat), g x.1] := enumW_zip g l 0
theorem nthL_cons {cs : List Cell} {h : Int} {i : Nat} {is : List Nat} {n : Nat} : nthL cs h (i :: is) n = match cs[i]? with
    | some c => if isH h c = true then (match n with
      | 0 => some i
      | n + 1 => nthL cs h is n) else nthL cs h is n
    | none => none := rfl
theorem isW_pl (is : List Int) : pl (isW is) = true := by unfold isW pl; exact pls_map (fun _ => rfl) is
theorem csW_pl (cs : List Cell) : pl (csW cs) = true := by unfold csW pl; exact pls_map cell_pl cs
theorem isW_dp (is : List Int) : dpW (isW is) ≤ 1 := by unfold isW dpW; exact Nat.succ_le_succ (dps_map (n := 0) (fun _ => Nat.le_refl _) is)
theorem csW_dp (cs : List Cell) : dpW (csW cs) ≤ 2 := by unfold csW dpW; exact Nat.succ_le_succ (dps_map cell_dp cs)
theorem code_pl (c : Code) : pl c.w = true := by
  unfold Code.w pl pls
  rw [isW_pl]
  unfold pls
  rw [show pl (.int c.size) = true from rfl]
  unfold pls
  rw [csW_pl]
  unfold pls
  rw [isW_pl]
  rfl
theorem code_dp (c : Code) : dpW c.w ≤ 3 := by
  unfold Code.w dpW
  refine Nat.succ_le_succ (dps_le fun w hw => ?_)
  simp only [List.mem_cons, List.not_mem_nil, or_false] at hw
  rcases hw with rfl | rfl | rfl | rfl
  · exact Nat.le_trans (isW_dp _) (by decide)
  · exact Nat.zero_le _
  · exact csW_dp _
  · exact Nat.le_trans (isW_dp _) (by decide)
/-- the same up to the order within stretches -/
def Same (c d : Code) : Prop := d.fit = true ∧ d.put (ord d.cells) = c.put (ord c.cells)
theorem isH_hd {h : Int} {x : Cell} : isH h x = true ↔ x.hd = .int h := by
  cases x <;> simp [isH, Cell.isS, Cell.hue, Cell.hd]
  exact decide_eq_true_iff
theorem fEq_hd {x : Cell} {h : Int} {M : Mh} {R : MK} (k : R (.bl (isH h x)) M) : fEq x.hd (.int h) M R := by
  refine fEq_pl (hd_pl x) rfl (by rw [hd_dp]; decide) (Nat.zero_le _) fun c hc => ?_
  have : c = isH h x := by rw [Bool.eq_iff_iff, hc, isH_hd]
  rw [this]
  exact k
def ownW (cs : List Cell) (h : Int) : List W := (cs.zipIdx.filter fun x => isH h x.1).map fun x => .tup [.int (x.2 : Nat), x.1.w]
section
variable {q : Ads} {RX : MX} {M : Mh} {R : MK}
theorem L_is_schedule {c d : Code} (hc : Cd c) (hb : d.bank.length ≤ 1000) (hd : d.cells.length ≤ 1000) (k : ∀ b : Bool, (b = true ↔ Same c d) → R (.bl b) M) : sp_is_schedule q RX [c.w, d.w] M R := by
  rw [un_is_schedule]
  simp only [mDef, mSeq, mIfS, mVal, mNot, mAnd, mOr, mAndV, mOrV, mNotV, mIf, mOp, mChain, mVar, mC, mTup, mLst, mArgs, mCall, mFn, mDGet, mAsg, mRet, mNext, mRaise, mDrop, mIsi, bindT, setAll, startM, List.map_cons, List.map_nil, List.length_cons, List.length_nil, List.replicate, List.cons_append, List.nil_append, List.getElem?_cons_zero, List.getElem?_cons_succ, List.set_cons_succ, List.set_cons_zero, Nat.zero_add, Nat.reduceAdd, Nat.reduceSub, fII, fIIc, fLt, fLe, fGt, fGe, fSub, fMul, fDiv, fMod, fPow, fAdd_int, fLen, items, if_true, fEq_int, fNe_int, fEq_str, fNe_str, List.length_map, mFor, miEnum, miSeq, miRg1, miRg2, mLc, wipeM, mYes, mIsN, mNotN, mMeth, mNeg, mSl, mPart, fSl, fList, mBrk, fI1, fI2]
  refine L_need_code hc (L_is_code hb hd ?_)
  cases e : d.fit with
  | false => exact iteN (by decide) (fg_of (k _ ⟨fun z => (nomatch z), fun z => by have := z.1; rw [e] at this; exact this⟩))
  | true =>
    refine iteY rfl (L_sorted hd (L_sorted (by have := hc.len; omega) ?_))
    refine fEq_pl (code_pl _) (code_pl _) (Nat.le_trans (code_dp _) (by decide)) (Nat.le_trans (code_dp _) (by decide)) fun b hb => fg_of (k b ?_)
    rw [hb]
    exact ⟨fun z => ⟨e, Code.w_inj z⟩, fun z => by rw [z.2]⟩
theorem L_is_schedule_no {c : Code} {v : W} (hc : Cd c) (hv : NoC M v) (k : R (.bl false) M) : sp_is_schedule q RX [c.w, v] M R := by
  rw [un_is_schedule]
  simp only [mDef, mSeq, mIfS, mVal, mNot, mAnd, mOr, mAndV, mOrV, mNotV, mIf, mOp, mChain, mVar, mC, mTup, mLst, mArgs, mCall, mFn, mDGet, mAsg, mRet, mNext, mRaise, mDrop, mIsi, bindT, setAll, startM, List.map_cons, List.map_nil, List.length_cons, List.length_nil, List.replicate, List.cons_append, List.nil_append, List.getElem?_cons_zero, List.getElem?_cons_succ, List.set_cons_succ, List.set_cons_zero, Nat.zero_add, Nat.reduceAdd, Nat.reduceSub, fII, fIIc, fLt, fLe, fGt, fGe, fSub, fMul, fDiv, fMod, fPow, fAdd_int, fLen, items, if_true, fEq_int, fNe_int, fEq_str, fNe_str, List.length_map, mFor, miEnum, miSeq, miRg1, miRg2, mLc, wipeM, mYes, mIsN, mNotN, mMeth, mNeg, mSl, mPart, fSl, fList, mBrk, fI1, fI2]
  refine L_need_code hc (L_no_code hv ?_)
  exact iteN (by decide) (fg_of k)
/-- a value of which the answer is plain -/
inductive Val (M : Mh) (c : Code) : W → Bool → Prop
  | yes {d : Code} : d.bank.length ≤ 1000 → d.cells.length ≤ 1000 → Same c d → Val M c d.w true
  | not {d : Code} : d.bank.length ≤ 1000 → d.cells.length ≤ 1000 → ¬ Same c d → Val M c d.w false
  | odd {v : W} : NoC M v → Val M c v false
theorem L_val {c : Code} {v : W} {b : Bool} (hc : Cd c) (hv : Val M c v b) (k : R (.bl b) M) : sp_is_schedule q RX [c.w, v] M R := by
  cases hv with
  | yes h1 h2 h3 => exact L_is_schedule hc h1 h2 fun b hb => by rw [hb.mpr h3]; exact k
  | not h1 h2 h3 => exact L_is_schedule hc h1 h2 fun b hb => by rw [show b = false from Bool.eq_false_iff.mpr fun z => h3 (hb.mp z)]; exact k
  | odd h => exact L_is_schedule_no hc h k
theorem L_need_schedule {c : Code} {v : W} {b : Bool} (hc : Cd c) (hv : Val M c v b) (kt : b = true → R .non M) (kf : b = false → RX q.NotSchedule M) : sp_need_schedule q RX [c.w, v] M R := by
  rw [un_need_schedule]
  simp only [mDef, mSeq, mIfS, mVal, mNot, mAnd, mOr, mAndV, mOrV, mNotV, mIf, mOp, mChain, mVar, mC, mTup, mLst, mArgs, mCall, mFn, mDGet, mAsg, mRet, mNext, mRaise, mDrop, mIsi, bindT, setAll, startM, List.map_cons, List.map_nil, List.length_cons, List.length_nil, List.replicate, List.cons_append, List.nil_append, List.getElem?_cons_zero, List.getElem?_cons_succ, List.set_cons_succ, List.set_cons_zero, Nat.zero_add, Nat.reduceAdd, Nat.reduceSub, fII, fIIc, fLt, fLe, fGt, fGe, fSub, fMul, fDiv, fMod, fPow, fAdd_int, fLen, items, if_true, fEq_int, fNe_int, fEq_str, fNe_str, List.length_map, mFor, miEnum, miSeq, miRg1, miRg2, mLc, wipeM, mYes, mIsN, mNotN, mMeth, mNeg, mSl, mPart, fSl, fList, mBrk, fI1, fI2]
  refine L_val hc hv ?_
  cases b with
  | true => exact iteN (by decide) (fg_of (kt rfl))
  | false => exact iteY (by decide) ⟨M, Sub.refl, kf rfl⟩
theorem L_nth_of {ds : List Cell} {f e : Nat} {h : Int} {n : Nat} (fe : f ≤ e) (he : e ≤ ds.length) (hl : ds.length ≤ 1000) (k : R (.int (((nthL ds h ((List.range (e - f)).map (f + ·)) n).getD e : Nat) : Int)) M) :
    sp_nth_of q RX [csW ds, .int f, .int e, .int h, .int n] M R := by
  rw [un_nth_of]
  simp only [mDef, mSeq, mIfS, mVal, mNot, mAnd, mOr, mAndV, mOrV, mNotV, mIf, mOp, mChain, mVar, mC, mTup, mLst, mArgs, mCall, mFn, mDGet, mAsg, mRet, mNext, mRaise, mDrop, mIsi, bindT, setAll, startM, List.map_cons, List.map_nil, List.length_cons, List.length_nil, List.replicate, List.cons_append, List.nil_append, List.getElem?_cons_zero, List.getElem?_cons_succ, List.set_cons_succ, List.set_cons_zero, Nat.zero_add, Nat.reduceAdd, Nat.reduceSub, fII, fIIc, fLt, fLe, fGt, fGe, fSub, fMul, fDiv, fMod, fPow, fAdd_int, fLen, items, if_true, fEq_int, fNe_int, fEq_str, fNe_str, List.length_map, mFor, miEnum, miSeq, miRg1, miRg2, mLc, wipeM, mYes, mIsN, mNotN, mMeth, mNeg, mSl, mPart, fSl, fList, mBrk, fI1, fI2]
  have e1 : (((e : Nat) : Int) - ((f : Nat) : Int)).toNat = e - f := by omega
  refine ⟨⟨by omega, by omega, by omega, by omega⟩, ?_⟩
  unfold rgW
  rw [e1]
  refine forL_ind (fun j e2 M' => M = M' ∧ ∃ n', nthL ds h ((List.range (e - f)).map (f + ·)) n = nthL ds h (((List.range (e - f)).map (f + ·)).drop j) n' ∧ ∃ a, e2 = [some (csW ds), some (.int (f : Nat)), some (.int (e : Nat)), some (.int h), some (.int (n' : Nat)), a]) _ 0 _ _ ⟨rfl, n, rfl, none, rfl⟩ ?_ ?_
  · rintro j w e2 M' kk hw ⟨rfl, n', hh, a, rfl⟩ hn
    obtain ⟨j', hj', rfl⟩ := map_inv hw
    have hj0 := (List.getElem?_eq_some_iff.mp hj').1
    rw [List.length_range] at hj0
    rw [List.getElem?_range hj0] at hj'
    cases hj'
    obtain ⟨x, hx⟩ : ∃ x, ds[f + j]? = some x := ⟨_, List.getElem?_eq_getElem (by omega)⟩
    have ej : ((f : Nat) : Int) + (j : Nat) = ((f + j : Nat) : Int) := by omega
    refine ⟨trivial, _, rfl, ?_⟩
    rw [Nat.zero_add] at hh hn
    have d : ((List.range (e - f)).map (f + ·)).drop j = (f + j) :: ((List.range (e - f)).map (f + ·)).drop (j + 1) := drop_at (by rw [List.getElem?_map, List.getElem?_range hj0]; rfl)
    rw [d, nthL_cons, hx] at hh
    simp only at hh
    simp only [mDef, mSeq, mIfS, mVal, mNot, mAnd, mOr, mAndV, mOrV, mNotV, mIf, mOp, mChain, mVar, mC, mTup, mLst, mArgs, mCall, mFn, mDGet, mAsg, mRet, mNext, mRaise, mDrop, mIsi, bindT, setAll, startM, List.map_cons, List.map_nil, List.length_cons, List.length_nil, List.replicate, List.cons_append, List.nil_append, List.getElem?_cons_zero, List.getElem?_cons_succ, List.set_cons_succ, List.set_cons_zero, Nat.zero_add, Nat.reduceAdd, Nat.reduceSub, fII, fIIc, fLt, fLe, fGt, fGe, fSub, fMul, fDiv, fMod, fPow, fAdd_int, fLen, items, if_true, fEq_int, fNe_int, fEq_str, fNe_str, List.length_map, mFor, miEnum, miSeq, miRg1, miRg2, mLc, wipeM, mYes, mIsN, mNotN, mMeth, mNeg, mSl, mPart, fSl, fList, mBrk, fI1, fI2, ej, csW, fIx_map hx, fIx0]
    refine fEq_hd ?_
    cases hx2 : isH h x with
    | true =>
      rw [hx2, if_pos rfl] at hh
      refine iteY rfl ?_
      cases n' with
      | zero =>
        refine iteY (by decide) ?_
        rw [hh] at k
        exact fg_of k
      | succ m =>
        have em : (((m + 1 : Nat) : Int) - 1) = (m : Nat) := by omega
        rw [em]
        exact iteN (by rw [decide_eq_true_eq]; omega) (hn _ _ ⟨rfl, m, hh, _, rfl⟩)
    | false =>
      rw [hx2, if_neg (by decide)] at hh
      exact iteN (by decide) (hn _ _ ⟨rfl, n', hh, _, rfl⟩)
  · rintro e2 M' ⟨rfl, n', hh, a, rfl⟩
    refine ⟨trivial, ?_⟩
    rw [List.length_map, Nat.zero_add, List.length_range, List.drop_of_length_le (by simp)] at hh
    have hh : _ = none := hh
    simp only [mDef, mSeq, mIfS, mVal, mNot, mAnd, mOr, mAndV, mOrV, mNotV, mIf, mOp, mChain, mVar, mC, mTup, mLst, mArgs, mCall, mFn, mDGet, mAsg, mRet, mNext, mRaise, mDrop, mIsi, bindT, setAll, startM, List.map_cons, List.map_nil, List.length_cons, List.length_nil, List.replicate, List.cons_append, List.nil_append, List.getElem?_cons_zero, List.getElem?_cons_succ, List.set_cons_succ, List.set_cons_zero, Nat.zero_add, Nat.reduceAdd, Nat.reduceSub, fII, fIIc, fLt, fLe, fGt, fGe, fSub, fMul, fDiv, fMod, fPow, fAdd_int, fLen, items, if_true, fEq_int, fNe_int, fEq_str, fNe_str, List.length_map, mFor, miEnum, miSeq, miRg1, miRg2, mLc, wipeM, mYes, mIsN, mNotN, mMeth, mNeg, mSl, mPart, fSl, fList, mBrk, fI1, fI2]
    rw [hh] at k
    exact fg_of k
theorem L_own_ahead {cs : List Cell} {f a : Nat} {h : Int} (fa : f ≤ a) (ha : a ≤ cs.length) (hl : cs.length ≤ 1000) (k : R (.int ((((slice f a cs).filter (isH h)).length : Nat) : Int)) M) :
    sp_own_ahead q RX [csW cs, .int f, .int a, .int h] M R := by
  rw [un_own_ahead]
  simp only [mDef, mSeq, mIfS, mVal, mNot, mAnd, mOr, mAndV, mOrV, mNotV, mIf, mOp, mChain, mVar, mC, mTup, mLst, mArgs, mCall, mFn, mDGet, mAsg, mRet, mNext, mRaise, mDrop, mIsi, bindT, setAll, startM, List.map_cons, List.map_nil, List.length_cons, List.length_nil, List.replicate, List.cons_append, List.nil_append, List.getElem?_cons_zero, List.getElem?_cons_succ, List.set_cons_succ, List.set_cons_zero, Nat.zero_add, Nat.reduceAdd, Nat.reduceSub, fII, fIIc, fLt, fLe, fGt, fGe, fSub, fMul, fDiv, fMod, fPow, fAdd_int, fLen, items, if_true, fEq_int, fNe_int, fEq_str, fNe_str, List.length_map, mFor, miEnum, miSeq, miRg1, miRg2, mLc, wipeM, mYes, mIsN, mNotN, mMeth, mNeg, mSl, mPart, fSl, fList, mBrk, fI1, fI2, csW]
  rw [cut_slice fa ha]
  refine ⟨by rw [List.length_map, slice_length ha, sizeLine_eq]; omega, lcL_mapA Cell.w Cell.w (isH h) trivial _ _ (fun x hx => ?_) ?_⟩
  · refine ⟨_, rfl, fun R hR => ?_, fun _ R hR => ?_⟩
    · simp only [mDef, mSeq, mIfS, mVal, mNot, mAnd, mOr, mAndV, mOrV, mNotV, mIf, mOp, mChain, mVar, mC, mTup, mLst, mArgs, mCall, mFn, mDGet, mAsg, mRet, mNext, mRaise, mDrop, mIsi, bindT, setAll, startM, List.map_cons, List.map_nil, List.length_cons, List.length_nil, List.replicate, List.cons_append, List.nil_append, List.getElem?_cons_zero, List.getElem?_cons_succ, List.set_cons_succ, List.set_cons_zero, Nat.zero_add, Nat.reduceAdd, Nat.reduceSub, fII, fIIc, fLt, fLe, fGt, fGe, fSub, fMul, fDiv, fMod, fPow, fAdd_int, fLen, items, if_true, fEq_int, fNe_int, fEq_str, fNe_str, List.length_map, mFor, miEnum, miSeq, miRg1, miRg2, mLc, wipeM, mYes, mIsN, mNotN, mMeth, mNeg, mSl, mPart, fSl, fList, mBrk, fI1, fI2, fIx0]
      exact fEq_hd hR
    · simp only [mDef, mSeq, mIfS, mVal, mNot, mAnd, mOr, mAndV, mOrV, mNotV, mIf, mOp, mChain, mVar, mC, mTup, mLst, mArgs, mCall, mFn, mDGet, mAsg, mRet, mNext, mRaise, mDrop, mIsi, bindT, setAll, startM, List.map_cons, List.map_nil, List.length_cons, List.length_nil, List.replicate, List.cons_append, List.nil_append, List.getElem?_cons_zero, List.getElem?_cons_succ, List.set_cons_succ, List.set_cons_zero, Nat.zero_add, Nat.reduceAdd, Nat.reduceSub, fII, fIIc, fLt, fLe, fGt, fGe, fSub, fMul, fDiv, fMod, fPow, fAdd_int, fLen, items, if_true, fEq_int, fNe_int, fEq_str, fNe_str, List.length_map, mFor, miEnum, miSeq, miRg1, miRg2, mLc, wipeM, mYes, mIsN, mNotN, mMeth, mNeg, mSl, mPart, fSl, fList, mBrk, fI1, fI2]
      exact hR
  · rw [List.nil_append]
    intro p hp
    simp only [updM_same]
    rw [List.length_map]
    exact fg_sub (sub_new hp) k
theorem L_own_cells {c : Code} {h : Int} (hl : c.cells.length ≤ 1000) (k : ∀ p, M p = none → R (.ref p) (updM M p (.lst (ownW c.cells h)))) : sp_own_cells q RX [c.w, .int h] M R := by
  rw [un_own_cells]
  simp only [mDef, mSeq, mIfS, mVal, mNot, mAnd, mOr, mAndV, mOrV, mNotV, mIf, mOp, mChain, mVar, mC, mTup, mLst, mArgs, mCall, mFn, mDGet, mAsg, mRet, mNext, mRaise, mDrop, mIsi, bindT, setAll, startM, List.map_cons, List.map_nil, List.length_cons, List.length_nil, List.replicate, List.cons_append, List.nil_append, List.getElem?_cons_zero, List.getElem?_cons_succ, List.set_cons_succ, List.set_cons_zero, Nat.zero_add, Nat.reduceAdd, Nat.reduceSub, fII, fIIc, fLt, fLe, fGt, fGe, fSub, fMul, fDiv, fMod, fPow, fAdd_int, fLen, items, if_true, fEq_int, fNe_int, fEq_str, fNe_str, List.length_map, mFor, miEnum, miSeq, miRg1, miRg2, mLc, wipeM, mYes, mIsN, mNotN, mMeth, mNeg, mSl, mPart, fSl, fList, mBrk, fI1, fI2, fIx_c2, csW]
  rw [enumW_zip0]
  refine ⟨by rw [List.length_map, List.length_zipIdx, sizeLine_eq]; omega, lcL_mapA _ (fun x : Cell × Nat => .tup [.int (x.2 : Nat), x.1.w]) (fun x => isH h x.1) trivial _ _ (fun x hx => ?_) ?_⟩
  · refine ⟨_, rfl, fun R hR => ?_, fun _ R hR => ?_⟩
    · simp only [mDef, mSeq, mIfS, mVal, mNot, mAnd, mOr, mAndV, mOrV, mNotV, mIf, mOp, mChain, mVar, mC, mTup, mLst, mArgs, mCall, mFn, mDGet, mAsg, mRet, mNext, mRaise, mDrop, mIsi, bindT, setAll, startM, List.map_cons, List.map_nil, List.length_cons, List.length_nil, List.replicate, List.cons_append, List.nil_append, List.getElem?_cons_zero, List.getElem?_cons_succ, List.set_cons_succ, List.set_cons_zero, Nat.zero_add, Nat.reduceAdd, Nat.reduceSub, fII, fIIc, fLt, fLe, fGt, fGe, fSub, fMul, fDiv, fMod, fPow, fAdd_int, fLen, items, if_true, fEq_int, fNe_int, fEq_str, fNe_str, List.length_map, mFor, miEnum, miSeq, miRg1, miRg2, mLc, wipeM, mYes, mIsN, mNotN, mMeth, mNeg, mSl, mPart, fSl, fList, mBrk, fI1, fI2]
      refine L_is_settle ?_
      cases hs : x.1.isS with
      | true =>
        refine iteN (by decide) ?_
        have : isH h x.1 = false := by unfold isH; rw [hs]; rfl
        rw [this] at hR
        exact hR
      | false =>
        refine iteY (by decide) ?_
        simp only [fIx0]
        exact fEq_hd hR
    · simp only [mDef, mSeq, mIfS, mVal, mNot, mAnd, mOr, mAndV, mOrV, mNotV, mIf, mOp, mChain, mVar, mC, mTup, mLst, mArgs, mCall, mFn, mDGet, mAsg, mRet, mNext, mRaise, mDrop, mIsi, bindT, setAll, startM, List.map_cons, List.map_nil, List.length_cons, List.length_nil, List.replicate, List.cons_append, List.nil_append, List.getElem?_cons_zero, List.getElem?_cons_succ, List.set_cons_succ, List.set_cons_zero, Nat.zero_add, Nat.reduceAdd, Nat.reduceSub, fII, fIIc, fLt, fLe, fGt, fGe, fSub, fMul, fDiv, fMod, fPow, fAdd_int, fLen, items, if_true, fEq_int, fNe_int, fEq_str, fNe_str, List.length_map, mFor, miEnum, miSeq, miRg1, miRg2, mLc, wipeM, mYes, mIsN, mNotN, mMeth, mNeg, mSl, mPart, fSl, fList, mBrk, fI1, fI2]
      exact hR
  · rw [List.nil_append]
    intro p hp
    exact fg_of (k p hp)
theorem L_instructions {c : Code} {h : Int} (hc : Cd c) (hh : 0 ≤ h ∧ h < c.votes.length) (k : ∀ p, M p = none → R (.ref p) (updM M p (.lst (ownW c.cells h)))) : sp_instructions q RX [c.w, .int h] M R := by
  rw [un_instructions]
  simp only [mDef, mSeq, mIfS, mVal, mNot, mAnd, mOr, mAndV, mOrV, mNotV, mIf, mOp, mChain, mVar, mC, mTup, mLst, mArgs, mCall, mFn, mDGet, mAsg, mRet, mNext, mRaise, mDrop, mIsi, bindT, setAll, startM, List.map_cons, List.map_nil, List.length_cons, List.length_nil, List.replicate, List.cons_append, List.nil_append, List.getElem?_cons_zero, List.getElem?_cons_succ, List.set_cons_succ, List.set_cons_zero, Nat.zero_add, Nat.reduceAdd, Nat.reduceSub, fII, fIIc, fLt, fLe, fGt, fGe, fSub, fMul, fDiv, fMod, fPow, fAdd_int, fLen, items, if_true, fEq_int, fNe_int, fEq_str, fNe_str, List.length_map, mFor, miEnum, miSeq, miRg1, miRg2, mLc, wipeM, mYes, mIsN, mNotN, mMeth, mNeg, mSl, mPart, fSl, fList, mBrk, fI1, fI2]
  refine L_need_code hc (L_need_hue hh (L_own_cells (by have := hc.len; omega) fun p hp => ?_))
  exact fg_of (k p hp)
theorem filter_zip (h : Int) : ∀ (cs : List Cell) (n : Nat), ((cs.zipIdx n).filter fun x => isH h x.1).map Prod.fst = cs.filter (isH h)
  | [], _ => rfl
  | c :: cs, n => by
    rw [List.zipIdx_cons, List.filter_cons, List.filter_cons]
    cases isH h c <;> simp [filter_zip h cs (n + 1)]
theorem L_mk_own_told {c : Code} {h : Int} (hc : Cd c) (hh : 0 ≤ h ∧ h < c.votes.length) (k : ∀ p, M p = none → R (.ref p) (updM M p (.lst ((c.cells.filter (isH h)).map Cell.w)))) : sp__law_mk_own_told q RX [c.w, .int h] M R := by
  rw [un__law_mk_own_told]
  simp only [mDef, mSeq, mIfS, mVal, mNot, mAnd, mOr, mAndV, mOrV, mNotV, mIf, mOp, mChain, mVar, mC, mTup, mLst, mArgs, mCall, mFn, mDGet, mAsg, mRet, mNext, mRaise, mDrop, mIsi, bindT, setAll, startM, List.map_cons, List.map_nil, List.length_cons, List.length_nil, List.replicate, List.cons_append, List.nil_append, List.getElem?_cons_zero, List.getElem?_cons_succ, List.set_cons_succ, List.set_cons_zero, Nat.zero_add, Nat.reduceAdd, Nat.reduceSub, fII, fIIc, fLt, fLe, fGt, fGe, fSub, fMul, fDiv, fMod, fPow, fAdd_int, fLen, items, if_true, fEq_int, fNe_int, fEq_str, fNe_str, List.length_map, mFor, miEnum, miSeq, miRg1, miRg2, mLc, wipeM, mYes, mIsN, mNotN, mMeth, mNeg, mSl, mPart, fSl, fList, mBrk, fI1, fI2]
  refine L_instructions hc hh fun r hr => ?_
  simp only [updM_same]
  have hl : (ownW c.cells h).length ≤ 1000 := by
    unfold ownW
    rw [List.length_map]
    have := List.length_filter_le (fun x : Cell × Nat => isH h x.1) c.cells.zipIdx
    rw [List.length_zipIdx] at this
    have := hc.len
    omega
  refine ⟨by rw [sizeLine_eq]; omega, ?_⟩
  unfold ownW
  refine lcL_mapA _ (fun x : Cell × Nat => x.1.w) (fun _ => true) updM_same _ _ (fun x hx => ?_) ?_
  · refine ⟨_, rfl, fun R hR => ?_, fun _ R hR => ?_⟩
    · simp only [mDef, mSeq, mIfS, mVal, mNot, mAnd, mOr, mAndV, mOrV, mNotV, mIf, mOp, mChain, mVar, mC, mTup, mLst, mArgs, mCall, mFn, mDGet, mAsg, mRet, mNext, mRaise, mDrop, mIsi, bindT, setAll, startM, List.map_cons, List.map_nil, List.length_cons, List.length_nil, List.replicate, List.cons_append, List.nil_append, List.getElem?_cons_zero, List.getElem?_cons_succ, List.set_cons_succ, List.set_cons_zero, Nat.zero_add, Nat.reduceAdd, Nat.reduceSub, fII, fIIc, fLt, fLe, fGt, fGe, fSub, fMul, fDiv, fMod, fPow, fAdd_int, fLen, items, if_true, fEq_int, fNe_int, fEq_str, fNe_str, List.length_map, mFor, miEnum, miSeq, miRg1, miRg2, mLc, wipeM, mYes, mIsN, mNotN, mMeth, mNeg, mSl, mPart, fSl, fList, mBrk, fI1, fI2]
      exact hR
    · simp only [mDef, mSeq, mIfS, mVal, mNot, mAnd, mOr, mAndV, mOrV, mNotV, mIf, mOp, mChain, mVar, mC, mTup, mLst, mArgs, mCall, mFn, mDGet, mAsg, mRet, mNext, mRaise, mDrop, mIsi, bindT, setAll, startM, List.map_cons, List.map_nil, List.length_cons, List.length_nil, List.replicate, List.cons_append, List.nil_append, List.getElem?_cons_zero, List.getElem?_cons_succ, List.set_cons_succ, List.set_cons_zero, Nat.zero_add, Nat.reduceAdd, Nat.reduceSub, fII, fIIc, fLt, fLe, fGt, fGe, fSub, fMul, fDiv, fMod, fPow, fAdd_int, fLen, items, if_true, fEq_int, fNe_int, fEq_str, fNe_str, List.length_map, mFor, miEnum, miSeq, miRg1, miRg2, mLc, wipeM, mYes, mIsN, mNotN, mMeth, mNeg, mSl, mPart, fSl, fList, mBrk, fI1, fI2]
      exact hR
  · rw [List.nil_append, List.filter_eq_self.mpr fun _ _ => rfl]
    intro p hp
    have e : (c.cells.zipIdx.filter fun x => isH h x.1).map (fun x : Cell × Nat => x.1.w) = (c.cells.filter (isH h)).map Cell.w := by
      rw [← filter_zip h c.cells 0, List.map_map]
      rfl
    rw [e]
    exact fg_new (sub_new hr) hp k
theorem goalOf_cons {cs ds : List Cell} {a : Nat} {p : Nat × Nat} {L : List (Nat × Nat)} : goalOf cs ds a (p :: L) = if p.1 ≤ a ∧ a < p.2 then (match cs[a]? with
    | some c => (nthL ds c.hue ((List.range (p.2 - p.1)).map (p.1 + ·)) ((slice p.1 a cs).filter (isH c.hue)).length).getD p.2
    | none => a) else goalOf cs ds a L := rfl
theorem L_moved_spot {c d : Code} {a : Nat} (hl : c.cells.length ≤ 1000) (hd : d.cells.length = c.cells.length) (ha : a < c.cells.length) (k : R (.int ((goal c.cells d.cells a : Nat) : Int)) M) : sp_moved_spot q RX [c.w, d.w, .int a] M R := by
  rw [un_moved_spot]
  simp only [mDef, mSeq, mIfS, mVal, mNot, mAnd, mOr, mAndV, mOrV, mNotV, mIf, mOp, mChain, mVar, mC, mTup, mLst, mArgs, mCall, mFn, mDGet, mAsg, mRet, mNext, mRaise, mDrop, mIsi, bindT, setAll, startM, List.map_cons, List.map_nil, List.length_cons, List.length_nil, List.replicate, List.cons_append, List.nil_append, List.getElem?_cons_zero, List.getElem?_cons_succ, List.set_cons_succ, List.set_cons_zero, Nat.zero_add, Nat.reduceAdd, Nat.reduceSub, fII, fIIc, fLt, fLe, fGt, fGe, fSub, fMul, fDiv, fMod, fPow, fAdd_int, fLen, items, if_true, fEq_int, fNe_int, fEq_str, fNe_str, List.length_map, mFor, miEnum, miSeq, miRg1, miRg2, mLc, wipeM, mYes, mIsN, mNotN, mMeth, mNeg, mSl, mPart, fSl, fList, mBrk, fI1, fI2, fIx_c2]
  refine L_stretch_list hl fun r hr => ?_
  simp only [updM_same]
  obtain ⟨x, hx⟩ : ∃ x, c.cells[a]? = some x := ⟨_, List.getElem?_eq_getElem ha⟩
  refine forL_ind (fun j e M' => M' = updM M r (.lst ((St c.cells).map pW)) ∧ goal c.cells d.cells a = goalOf c.cells d.cells a ((St c.cells).drop j) ∧ ∃ u v z, e = [some c.w, some d.w, some (.int (a : Nat)), some (csW c.cells), u, v, z]) _ 0 _ _ ⟨rfl, rfl, none, none, none, rfl⟩ ?_ ?_
  · rintro j w e M' kk hw ⟨rfl, hh, u, v, z, rfl⟩ hn
    obtain ⟨p, hp, rfl⟩ := map_inv hw
    have g := (St_good c.cells).each p (List.mem_of_getElem? hp)
    rw [Nat.zero_add] at hh hn
    rw [drop_at hp, goalOf_cons] at hh
    refine ⟨updM_same, _, rfl, ?_⟩
    simp only [mDef, mSeq, mIfS, mVal, mNot, mAnd, mOr, mAndV, mOrV, mNotV, mIf, mOp, mChain, mVar, mC, mTup, mLst, mArgs, mCall, mFn, mDGet, mAsg, mRet, mNext, mRaise, mDrop, mIsi, bindT, setAll, startM, List.map_cons, List.map_nil, List.length_cons, List.length_nil, List.replicate, List.cons_append, List.nil_append, List.getElem?_cons_zero, List.getElem?_cons_succ, List.set_cons_succ, List.set_cons_zero, Nat.zero_add, Nat.reduceAdd, Nat.reduceSub, fII, fIIc, fLt, fLe, fGt, fGe, fSub, fMul, fDiv, fMod, fPow, fAdd_int, fLen, items, if_true, fEq_int, fNe_int, fEq_str, fNe_str, List.length_map, mFor, miEnum, miSeq, miRg1, miRg2, mLc, wipeM, mYes, mIsN, mNotN, mMeth, mNeg, mSl, mPart, fSl, fList, mBrk, fI1, fI2]
    by_cases h1 : p.1 ≤ a
    · refine iteY (decide_eq_true (by omega)) ?_
      by_cases h2 : a < p.2
      · refine iteY (decide_eq_true (by omega)) ?_
        rw [if_pos ⟨h1, h2⟩, hx] at hh
        simp only at hh
        obtain ⟨x', hx', sx⟩ := g.2.2.2.2.2.2 a h1 h2
        rw [hx] at hx'
        cases hx'
        simp only [csW, fIx_map hx, fIx0, hd_ins sx]
        refine L_own_ahead h1 (by omega) hl ?_
        refine L_nth_of (Nat.le_of_lt g.2.1) (by rw [hd]; exact g.2.2.1) (by omega) ?_
        rw [hh] at k
        exact fg_sub (sub_new hr) k
      · rw [if_neg fun z => h2 z.2] at hh
        exact iteN (by rw [decide_eq_true_eq]; omega) (hn _ _ ⟨rfl, hh, _, _, _, rfl⟩)
    · rw [if_neg fun z => h1 z.1] at hh
      exact iteN (by rw [decide_eq_true_eq]; omega) (iteN (by decide) (hn _ _ ⟨rfl, hh, _, _, _, rfl⟩))
  · rintro e M' ⟨rfl, hh, u, v, z, rfl⟩
    refine ⟨updM_same, ?_⟩
    rw [List.length_map, Nat.zero_add, List.drop_length] at hh
    have hh : _ = a := hh
    simp only [mDef, mSeq, mIfS, mVal, mNot, mAnd, mOr, mAndV, mOrV, mNotV, mIf, mOp, mChain, mVar, mC, mTup, mLst, mArgs, mCall, mFn, mDGet, mAsg, mRet, mNext, mRaise, mDrop, mIsi, bindT, setAll, startM, List.map_cons, List.map_nil, List.length_cons, List.length_nil, List.replicate, List.cons_append, List.nil_append, List.getElem?_cons_zero, List.getElem?_cons_succ, List.set_cons_succ, List.set_cons_zero, Nat.zero_add, Nat.reduceAdd, Nat.reduceSub, fII, fIIc, fLt, fLe, fGt, fGe, fSub, fMul, fDiv, fMod, fPow, fAdd_int, fLen, items, if_true, fEq_int, fNe_int, fEq_str, fNe_str, List.length_map, mFor, miEnum, miSeq, miRg1, miRg2, mLc, wipeM, mYes, mIsN, mNotN, mMeth, mNeg, mSl, mPart, fSl, fList, mBrk, fI1, fI2]
    rw [hh] at k
    exact fg_sub (sub_new hr) k
theorem L_moved {c d : Code} {a : Nat} (hc : Cd c) (hd : Same c d) (ld : d.cells.length = c.cells.length) (lb : d.bank.length ≤ 1000) (ha : a < c.cells.length) (k : R (.int ((goal c.cells d.cells a : Nat) : Int)) M) : sp_moved_address q RX [c.w, d.w, .int a] M R := by
  have hl := hc.len
  rw [un_moved_address]
  simp only [mDef, mSeq, mIfS, mVal, mNot, mAnd, mOr, mAndV, mOrV, mNotV, mIf, mOp, mChain, mVar, mC, mTup, mLst, mArgs, mCall, mFn, mDGet, mAsg, mRet, mNext, mRaise, mDrop, mIsi, bindT, setAll, startM, List.map_cons, List.map_nil, List.length_cons, List.length_nil, List.replicate, List.cons_append, List.nil_append, List.getElem?_cons_zero, List.getElem?_cons_succ, List.set_cons_succ, List.set_cons_zero, Nat.zero_add, Nat.reduceAdd, Nat.reduceSub, fII, fIIc, fLt, fLe, fGt, fGe, fSub, fMul, fDiv, fMod, fPow, fAdd_int, fLen, items, if_true, fEq_int, fNe_int, fEq_str, fNe_str, List.length_map, mFor, miEnum, miSeq, miRg1, miRg2, mLc, wipeM, mYes, mIsN, mNotN, mMeth, mNeg, mSl, mPart, fSl, fList, mBrk, fI1, fI2]
  refine L_need_code hc (L_need_schedule hc (.yes lb (by omega) hd) (fun _ => L_need_address rfl (fun _ => L_moved_spot (by omega) ld ha ?_) fun e => ?_) fun z => nomatch z)
  · exact fg_of k
  · unfold fromB at e
    simp at e
    omega
/-- what is no schedule -/
theorem X_moved {c : Code} {v u : W} (hc : Cd c) (hv : Val M c v false) (k : RX q.NotSchedule M) : sp_moved_address q RX [c.w, v, u] M R := by
  rw [un_moved_address]
  simp only [mDef, mSeq, mIfS, mVal, mNot, mAnd, mOr, mAndV, mOrV, mNotV, mIf, mOp, mChain, mVar, mC, mTup, mLst, mArgs, mCall, mFn, mDGet, mAsg, mRet, mNext, mRaise, mDrop, mIsi, bindT, setAll, startM, List.map_cons, List.map_nil, List.length_cons, List.length_nil, List.replicate, List.cons_append, List.nil_append, List.getElem?_cons_zero, List.getElem?_cons_succ, List.set_cons_succ, List.set_cons_zero, Nat.zero_add, Nat.reduceAdd, Nat.reduceSub, fII, fIIc, fLt, fLe, fGt, fGe, fSub, fMul, fDiv, fMod, fPow, fAdd_int, fLen, items, if_true, fEq_int, fNe_int, fEq_str, fNe_str, List.length_map, mFor, miEnum, miSeq, miRg1, miRg2, mLc, wipeM, mYes, mIsN, mNotN, mMeth, mNeg, mSl, mPart, fSl, fList, mBrk, fI1, fI2]
  exact L_need_code hc (L_need_schedule hc hv (fun z => nomatch z) fun _ => ⟨M, Sub.refl, k⟩)
/-- what is no address -/
theorem X_moved_at {c : Code} {u : W} (hc : Cd c) (hu : (tyW M u).isSome = true) (hn : fromB u 0 ((c.cells.length : Int) - 1) = false) (k : RX q.BadAddress M) : sp_moved_address q RX [c.w, c.w, u] M R := by
  rw [un_moved_address]
  simp only [mDef, mSeq, mIfS, mVal, mNot, mAnd, mOr, mAndV, mOrV, mNotV, mIf, mOp, mChain, mVar, mC, mTup, mLst, mArgs, mCall, mFn, mDGet, mAsg, mRet, mNext, mRaise, mDrop, mIsi, bindT, setAll, startM, List.map_cons, List.map_nil, List.length_cons, List.length_nil, List.replicate, List.cons_append, List.nil_append, List.getElem?_cons_zero, List.getElem?_cons_succ, List.set_cons_succ, List.set_cons_zero, Nat.zero_add, Nat.reduceAdd, Nat.reduceSub, fII, fIIc, fLt, fLe, fGt, fGe, fSub, fMul, fDiv, fMod, fPow, fAdd_int, fLen, items, if_true, fEq_int, fNe_int, fEq_str, fNe_str, List.length_map, mFor, miEnum, miSeq, miRg1, miRg2, mLc, wipeM, mYes, mIsN, mNotN, mMeth, mNeg, mSl, mPart, fSl, fList, mBrk, fI1, fI2]
  have hl := hc.len
  have hb := hc.bank
  refine L_need_code hc (L_need_schedule hc (.yes (by omega) (by omega) ⟨hc.fit, rfl⟩) (fun _ => L_need_address hu (fun e => ?_) fun _ => ⟨M, Sub.refl, k⟩) fun z => nomatch z)
  rw [hn] at e
  cases e
theorem X_moved_no {v u t : W} (h : NoC M v) (k : RX q.BadCode M) : sp_moved_address q RX [v, u, t] M R := by
  rw [un_moved_address]
  simp only [mDef, mSeq, mIfS, mVal, mNot, mAnd, mOr, mAndV, mOrV, mNotV, mIf, mOp, mChain, mVar, mC, mTup, mLst, mArgs, mCall, mFn, mDGet, mAsg, mRet, mNext, mRaise, mDrop, mIsi, bindT, setAll, startM, List.map_cons, List.map_nil, List.length_cons, List.length_nil, List.replicate, List.cons_append, List.nil_append, List.getElem?_cons_zero, List.getElem?_cons_succ, List.set_cons_succ, List.set_cons_zero, Nat.zero_add, Nat.reduceAdd, Nat.reduceSub, fII, fIIc, fLt, fLe, fGt, fGe, fSub, fMul, fDiv, fMod, fPow, fAdd_int, fLen, items, if_true, fEq_int, fNe_int, fEq_str, fNe_str, List.length_map, mFor, miEnum, miSeq, miRg1, miRg2, mLc, wipeM, mYes, mIsN, mNotN, mMeth, mNeg, mSl, mPart, fSl, fList, mBrk, fI1, fI2]
  exact X_need_code h ⟨M, Sub.refl, k⟩
theorem X_labels_no {v : W} (h : NoC M v) (k : RX q.BadCode M) : sp_labels_of q RX [v] M R := by
  rw [un_labels_of]
  simp only [mDef, mSeq, mIfS, mVal, mNot, mAnd, mOr, mAndV, mOrV, mNotV, mIf, mOp, mChain, mVar, mC, mTup, mLst, mArgs, mCall, mFn, mDGet, mAsg, mRet, mNext, mRaise, mDrop, mIsi, bindT, setAll, startM, List.map_cons, List.map_nil, List.length_cons, List.length_nil, List.replicate, List.cons_append, List.nil_append, List.getElem?_cons_zero, List.getElem?_cons_succ, List.set_cons_succ, List.set_cons_zero, Nat.zero_add, Nat.reduceAdd, Nat.reduceSub, fII, fIIc, fLt, fLe, fGt, fGe, fSub, fMul, fDiv, fMod, fPow, fAdd_int, fLen, items, if_true, fEq_int, fNe_int, fEq_str, fNe_str, List.length_map, mFor, miEnum, miSeq, miRg1, miRg2, mLc, wipeM, mYes, mIsN, mNotN, mMeth, mNeg, mSl, mPart, fSl, fList, mBrk, fI1, fI2]
  exact X_need_code h ⟨M, Sub.refl, k⟩
theorem X_stretches_no {v : W} (h : NoC M v) (k : RX q.BadCode M) : sp_stretches q RX [v] M R := by
  rw [un_stretches]
  simp only [mDef, mSeq, mIfS, mVal, mNot, mAnd, mOr, mAndV, mOrV, mNotV, mIf, mOp, mChain, mVar, mC, mTup, mLst, mArgs, mCall, mFn, mDGet, mAsg, mRet, mNext, mRaise, mDrop, mIsi, bindT, setAll, startM, List.map_cons, List.map_nil, List.length_cons, List.length_nil, List.replicate, List.cons_append, List.nil_append, List.getElem?_cons_zero, List.getElem?_cons_succ, List.set_cons_succ, List.set_cons_zero, Nat.zero_add, Nat.reduceAdd, Nat.reduceSub, fII, fIIc, fLt, fLe, fGt, fGe, fSub, fMul, fDiv, fMod, fPow, fAdd_int, fLen, items, if_true, fEq_int, fNe_int, fEq_str, fNe_str, List.length_map, mFor, miEnum, miSeq, miRg1, miRg2, mLc, wipeM, mYes, mIsN, mNotN, mMeth, mNeg, mSl, mPart, fSl, fList, mBrk, fI1, fI2]
  exact X_need_code h ⟨M, Sub.refl, k⟩
theorem X_exchangeable_no {v : W} (h : NoC M v) (k : RX q.BadCode M) : sp_exchangeable q RX [v] M R := by
  rw [un_exchangeable]
  simp only [mDef, mSeq, mIfS, mVal, mNot, mAnd, mOr, mAndV, mOrV, mNotV, mIf, mOp, mChain, mVar, mC, mTup, mLst, mArgs, mCall, mFn, mDGet, mAsg, mRet, mNext, mRaise, mDrop, mIsi, bindT, setAll, startM, List.map_cons, List.map_nil, List.length_cons, List.length_nil, List.replicate, List.cons_append, List.nil_append, List.getElem?_cons_zero, List.getElem?_cons_succ, List.set_cons_succ, List.set_cons_zero, Nat.zero_add, Nat.reduceAdd, Nat.reduceSub, fII, fIIc, fLt, fLe, fGt, fGe, fSub, fMul, fDiv, fMod, fPow, fAdd_int, fLen, items, if_true, fEq_int, fNe_int, fEq_str, fNe_str, List.length_map, mFor, miEnum, miSeq, miRg1, miRg2, mLc, wipeM, mYes, mIsN, mNotN, mMeth, mNeg, mSl, mPart, fSl, fList, mBrk, fI1, fI2]
  exact X_need_code h ⟨M, Sub.refl, k⟩
end
end K75


set_option Elab.async false
set_option linter.all false
set_option maxRecDepth 100000
set_option maxHeartbeats 8000000
namespace K75
open PySem PySem.Spec PyProof.Rows L2 ML
/-! # the law's checks -/
theorem filterS_skel : ∀ {cs ds : List Cell}, ds.map Cell.skel = cs.map Cell.skel → ds.filter Cell.isS = cs.filter Cell.isS
  | [], [], _ => rfl
  | [], _ :: _, h => by simp at h
  | _ :: _, [], h => by simp at h
  | c :: cs, d :: ds, h => by
    simp only [List.map_cons, List.cons.injEq] at h
    rw [List.filter_cons, List.filter_cons, filterS_skel h.2, skel_isS h.1]
    cases s : c.isS with
    | true => rw [skel_eq h.1 s]
    | false => rfl
theorem Sch.mem {cs ds : List Cell} (s : Sch cs ds) {x : Cell} (h : x ∈ ds) : x ∈ cs := by
  cases e : x.isS with
  | true =>
    have : x ∈ ds.filter Cell.isS := List.mem_filter.mpr ⟨h, e⟩
    rw [filterS_skel s.sk] at this
    exact (List.mem_filter.mp this).1
  | false =>
    have : x ∈ ds.filter (isH x.hue) := List.mem_filter.mpr ⟨h, by unfold isH; rw [e]; simp⟩
    rw [s.own] at this
    exact (List.mem_filter.mp this).1
theorem put_fit {c : Code} {ds : List Cell} (h : c.fit = true) (hl : ds.length = c.cells.length) (hm : ∀ x ∈ ds, c.fits x = true) : (c.put ds).fit = true := by
  unfold Code.fit at h ⊢
  simp only [Bool.and_eq_true, decide_eq_true_eq, List.all_eq_true] at h ⊢
  obtain ⟨a, b, d, e, f, g, i⟩ := h
  have em : (c.put ds).many = c.many := by unfold Code.many; show ((ds.length : Nat) : Int) = _; rw [hl]
  refine ⟨a, b, d, e, by rw [em]; exact f, by rw [em]; exact g, fun x hx => ?_⟩
  have : (c.put ds).fits x = c.fits x := by
    unfold Code.fits
    rw [em]
    rfl
  rw [this]
  exact hm x hx
theorem Sch.cd {c : Code} {ds : List Cell} (h : Cd c) (s : Sch c.cells ds) : Cd (c.put ds) :=
  ⟨put_fit h.fit (skel_length s.sk) fun x hx => h.parts.2.2.2.2.2 x (s.mem hx), by show ds.length ≤ 400; rw [skel_length s.sk]; exact h.len, by show (ds.filter Cell.isS).length ≤ 25; rw [filterS_skel s.sk]; exact h.st⟩
theorem Sch.same {c : Code} {ds : List Cell} (h : Cd c) (s : Sch c.cells ds) : Same c (c.put ds) :=
  ⟨(s.cd h).fit, by show c.put (K75.ord ds) = _; rw [s.ord]⟩
theorem nc_tup {k : Nat} {ws : List W} (h : ∀ w ∈ ws, Nc k w ∧ dpW w ≤ 40) : Nc ((k + 1) * ws.length) (.tup ws) := by
  have h1 : ∀ w ∈ ws, Nc k w := fun w hw => (h w hw).1
  refine ⟨ncs_pl h1, ncs_sm h1, ?_, ncs_bk h1⟩
  unfold dpW
  have := dps_le fun w hw => (h w hw).2
  omega
theorem nc_nW {n : Nat} (h : n ≤ 1000000) : Nc 63 (nW n) := nc_int (by omega)
theorem nc_pW {p : Nat × Nat} (h1 : p.1 ≤ 1000) (h2 : p.2 ≤ 1000) : Nc 63 (pW p) := by
  have : Nc ((0 + 1) * 2) (pW p) := nc_tup (k := 0) (ws := [.int (p.1 : Nat), .int (p.2 : Nat)]) fun w hw => by
    simp only [List.mem_cons, List.not_mem_nil, or_false] at hw
    rcases hw with rfl | rfl
    · exact ⟨nc_int (by omega), Nat.zero_le _⟩
    · exact ⟨nc_int (by omega), Nat.zero_le _⟩
  exact this.mono (by decide)
theorem spots_le {cs : List Cell} (hl : cs.length ≤ 1000) : (spots cs).length ≤ 1000000 ∧ ∀ a ∈ spots cs, a + 1 < cs.length := by
  constructor
  · have key : ∀ L : List (Nat × Nat), (∀ p ∈ L, p.2 ≤ 1000) → (L.flatMap (spotL cs)).length ≤ L.length * 1000 := by
      intro L
      induction L with
      | nil => intro _; exact Nat.le_refl _
      | cons p L ih =>
        intro h
        rw [List.flatMap_cons, List.length_append, List.length_cons, Nat.succ_mul]
        have := spotL_length cs (h p List.mem_cons_self)
        have := ih fun q hq => h q (List.mem_cons_of_mem _ hq)
        omega
    have h1 := key (St cs) fun p hp => by have := ((St_good cs).each p hp).2.2.1; omega
    have h2 := St_length cs
    have h3 : (St cs).length * 1000 ≤ 1000 * 1000 := Nat.mul_le_mul_right 1000 (by omega)
    exact Nat.le_trans h1 h3
  · intro a ha
    obtain ⟨x, y, hx, hy, _, _⟩ := spots_two ha
    exact (List.getElem?_eq_some_iff.mp hy).1
/-- with less than ten thousand of them -/
theorem spotsum {cs : List Cell} : ∀ L : List (Nat × Nat), L.Pairwise (fun p q => p.2 ≤ q.1) → (∀ p ∈ L, p.1 < p.2 ∧ p.2 ≤ cs.length) → ∀ lo, (∀ p ∈ L, lo ≤ p.1) → lo ≤ cs.length → (L.flatMap (spotL cs)).length + lo ≤ cs.length
  | [], _, _, lo, _, hl => by simpa using hl
  | p :: L, pw, hb, lo, h, hl => by
    rw [List.pairwise_cons] at pw
    obtain ⟨b1, b2⟩ := hb p List.mem_cons_self
    have ih := spotsum L pw.2 (fun q hq => hb q (List.mem_cons_of_mem _ hq)) p.2 pw.1 b2
    have h1 := h p List.mem_cons_self
    have h2 : (spotL cs p).length ≤ p.2 - 1 - p.1 := by
      unfold spotL
      have := List.length_filter_le (dif cs) ((List.range (p.2 - 1 - p.1)).map (p.1 + ·))
      rw [List.length_map, List.length_range] at this
      exact this
    rw [List.flatMap_cons, List.length_append]
    omega
theorem spots_len (cs : List Cell) : (spots cs).length ≤ cs.length := by
  have g := St_good cs
  exact spotsum (St cs) g.pw (fun p hp => ⟨(g.each p hp).2.1, (g.each p hp).2.2.1⟩) 0 (fun _ _ => Nat.zero_le _) (Nat.zero_le _)
theorem labF_len (cs : List Cell) : (labF cs).length ≤ cs.length ∧ ∀ n ∈ labF cs, n < cs.length := by
  unfold labF
  have := List.length_filter_le (lab cs) (List.range cs.length)
  rw [List.length_range] at this
  exact ⟨this, fun n hn => List.mem_range.mp (List.mem_filter.mp hn).1⟩
section
variable {q : Ads} {RX : MX} {M : Mh} {R : MK}
theorem repr_both {M : Mh} {xs : List W} {R : MK} {p : Addr} {mb : MK → Prop} (hp : M p = none) (h : ∀ w ∈ xs, Nc 63 w) (hl : xs.length ≤ 1000) (k : R (.str (PyData.list (dWs xs)).shown) (updM M p (.lst xs))) : fRepr [.ref p] (updM M p (.lst xs)) R :=
  fRepr_lst updM_same h (by omega) k
theorem L_lists_right {c : Code} (hc : Cd c) (k : R (.bl true) M) : sp__law_mk_lists_right q RX [c.w] M R := by
  have hl := hc.len
  rw [un__law_mk_lists_right]
  simp only [mDef, mSeq, mIfS, mVal, mNot, mAnd, mOr, mAndV, mOrV, mNotV, mIf, mOp, mChain, mVar, mC, mTup, mLst, mArgs, mCall, mFn, mDGet, mAsg, mRet, mNext, mRaise, mDrop, mIsi, bindT, setAll, startM, List.map_cons, List.map_nil, List.length_cons, List.length_nil, List.replicate, List.cons_append, List.nil_append, List.getElem?_cons_zero, List.getElem?_cons_succ, List.set_cons_succ, List.set_cons_zero, Nat.zero_add, Nat.reduceAdd, Nat.reduceSub, fII, fIIc, fLt, fLe, fGt, fGe, fSub, fMul, fDiv, fMod, fPow, fAdd_int, fLen, items, if_true, List.reverse_cons, List.reverse_nil, fEq_int, fNe_int, fEq_str, fNe_str, List.length_map, mFor, miEnum, miSeq, miRg1, miRg2, mLc, wipeM, mYes, mIsN, mNotN, mMeth, mNeg, mSl, mPart, fSl, fList, mBrk, fI1, fI2, fIx_c2]
  have lf := labF_len c.cells
  have sp := spots_le (cs := c.cells) (by omega)
  have spl := spots_len c.cells
  have stl := St_length c.cells
  have n1 : ∀ w ∈ (labF c.cells).map nW, Nc 63 w := fun w hw => by
    obtain ⟨n, hn, rfl⟩ := List.mem_map.mp hw
    exact nc_nW (by have := lf.2 n hn; omega)
  have n2 : ∀ w ∈ (St c.cells).map pW, Nc 63 w := fun w hw => by
    obtain ⟨p, hp, rfl⟩ := List.mem_map.mp hw
    have := (St_good c.cells).each p hp
    exact nc_pW (by omega) (by omega)
  have n3 : ∀ w ∈ (spots c.cells).map nW, Nc 63 w := fun w hw => by
    obtain ⟨n, hn, rfl⟩ := List.mem_map.mp hw
    exact nc_nW (by have := sp.2 n hn; omega)
  refine L_labels hc fun p1 h1 => fRepr_lst updM_same n1 (by rw [List.length_map]; omega) ?_
  refine L_mk_labels (by omega) fun p2 h2 => fRepr_lst updM_same n1 (by rw [List.length_map]; omega) ?_
  refine fNe_same rfl (iteN (by decide) ?_)
  refine L_stretches hc fun p3 h3 => fRepr_lst updM_same n2 (by rw [List.length_map]; omega) ?_
  refine L_mk_stretches (by omega) fun p4 h4 => fRepr_lst updM_same n2 (by rw [List.length_map]; omega) ?_
  refine fNe_same rfl (iteN (by decide) ?_)
  refine L_exchangeable hc fun p5 h5 => fRepr_lst updM_same n3 (by rw [List.length_map]; omega) ?_
  refine L_mk_swaps (by omega) fun p6 h6 => fRepr_lst updM_same n3 (by rw [List.length_map]; omega) ?_
  refine fEq_same rfl ?_
  exact fg_sub ((((((sub_new h1).new h2).new h3).new h4).new h5).new h6) k
end
end K75


set_option Elab.async false
set_option linter.all false
set_option maxRecDepth 100000
set_option maxHeartbeats 8000000
namespace K75
open PySem PySem.Spec PyProof.Rows L2 ML
/-! # drawing -/
theorem forL_brk {G : Mh → Prop} {tg : Tg} {b : MS} {RX : MX} {D : MEnds} (I : Nat → MEnv → Mh → Prop) (Q : MEnv → Mh → Prop) (ws : List W) (e : MEnv) (M : Mh) (h0 : I 0 e M)
    (step : ∀ (i : Nat) (w : W) (e : MEnv) (M : Mh) (k kb : MEnv → Mh → Prop), ws[i]? = some w → I i e M → (∀ e' M', I (i + 1) e' M' → k e' M') → (∀ e' M', Q e' M' → kb e' M') → G M ∧ ∃ e1, bindT tg w e = some e1 ∧ b RX { D with nx := k, ct := k, bk := kb } e1 M)
    (fin : ∀ e M, I ws.length e M → G M ∧ Q e M) (post : ∀ e M, Q e M → D.nx e M) : forL G tg b RX D ws e M :=
  forL_ind I ws 0 e M h0 (fun i w e M k hw hi hk => step i w e M k D.nx hw (by rw [Nat.zero_add] at hi; exact hi) (fun e' M' h => hk e' M' (by rw [Nat.zero_add]; exact h)) post) fun e M h => by
    obtain ⟨a, b⟩ := fin e M (by rw [Nat.zero_add] at h; exact h)
    exact ⟨a, post e M b⟩
theorem fNe_eq {M : Mh} {x : W} {R : MK} (hx : pl x = true) (dx : dpW x ≤ 60) (k : R (.bl false) M) : fNe x x M R := by
  refine fNe_pl hx hx dx dx fun c hc => ?_
  have : c = false := Bool.eq_false_iff.mpr fun z => hc.mp z rfl
  rw [this]
  exact k
theorem fNe_lsts {M : Mh} {p r : Addr} {xs : List W} {R : MK} (hp : M p = some (.lst xs)) (hr : M r = some (.lst xs)) (hx : ∀ w ∈ xs, pl w = true ∧ dpW w ≤ 60) (k : R (.bl false) M) : fNe (.ref p) (.ref r) M R := by
  refine fNe_lst hp hr (fun w h => (hx w h).1) (fun w h => (hx w h).1) (fun w h => (hx w h).2) (fun w h => (hx w h).2) fun c hc => ?_
  have : c = false := Bool.eq_false_iff.mpr fun z => hc.mp z rfl
  rw [this]
  exact k
theorem nW_pl (n : Nat) : pl (nW n) = true ∧ dpW (nW n) ≤ 60 := ⟨rfl, Nat.zero_le _⟩
theorem pW_pl (p : Nat × Nat) : pl (pW p) = true ∧ dpW (pW p) ≤ 60 := ⟨rfl, by unfold pW dpW; exact Nat.succ_le_succ (Nat.zero_le _)⟩
theorem in_map {α : Type} {f : α → W} {P : W → Prop} (h : ∀ x, P (f x)) (l : List α) : ∀ w ∈ l.map f, P w := fun w hw => by
  obtain ⟨x, _, rfl⟩ := List.mem_map.mp hw
  exact h x
theorem cell_ok (x : Cell) : pl x.w = true ∧ dpW x.w ≤ 60 := ⟨cell_pl x, Nat.le_trans (cell_dp x) (by decide)⟩
theorem code_ok (c : Code) : pl c.w = true ∧ dpW c.w ≤ 60 := ⟨code_pl c, Nat.le_trans (code_dp c) (by decide)⟩
theorem index_ok {M : Mh} {p : Addr} {ws : List W} {y : W} {j : Nat} {R : MK} (hp : M p = some (.lst ws)) (hw : ∀ w ∈ ws, pl w = true ∧ dpW w ≤ 60) (hj : ws[j]? = some y) (first : ∀ i < j, ws[i]? ≠ some y) (k : R (.int (j : Nat)) M) : fIndex (.ref p) [y] M R := by
  have hy := hw y (List.mem_of_getElem? hj)
  have d1 : dat M 8 (.ref p) = some (.list (ws.map dW)) := by
    unfold dat
    rw [hp]
    simp only [dats_pl M 7 ws ((pls_iff ws).mpr fun w h => (hw w h).1), Option.map_some, dWs_map]
  unfold fIndex
  simp only [d1, dat_pl M 8 y hy.1]
  refine ⟨shaped_lst (fun w h => (hw w h).1) (fun w h => (hw w h).2), shaped_pl hy.1 hy.2, ?_⟩
  have hl := (List.getElem?_eq_some_iff.mp hj).1
  have : (ws.map dW).findIdx? (fun z => PyData.eqv z (dW y)) = some j := by
    rw [List.findIdx?_eq_some_iff_getElem]
    refine ⟨by rw [List.length_map]; exact hl, ?_, fun i hi => ?_⟩
    · rw [List.getElem_map, (List.getElem?_eq_some_iff.mp hj).2]
      exact (eqv_pl y y hy.1 hy.1).mpr rfl
    · rw [List.getElem_map]
      intro z
      have hm : ws[i]'(by omega) ∈ ws := List.getElem_mem _
      have := (eqv_pl _ y (hw _ hm).1 hy.1).mp z
      exact first i hi (by rw [List.getElem?_eq_getElem (by omega), this])
  rw [this]
  exact k
theorem own_at {cs : List Cell} {a : Nat} {x : Cell} {h : Int} (hx : cs[a]? = some x) (hh : isH h x = true) : (ownW cs h)[((cs.take a).filter (isH h)).length]? = some (.tup [.int (a : Nat), x.w]) ∧ ∀ i < ((cs.take a).filter (isH h)).length, (ownW cs h)[i]? ≠ some (.tup [.int (a : Nat), x.w]) := by
  have hl := (List.getElem?_eq_some_iff.mp hx).1
  have d : cs = cs.take a ++ x :: cs.drop (a + 1) := by rw [← drop_at hx, List.take_append_drop]
  have tl : (cs.take a).length = a := by rw [List.length_take]; omega
  have e : ownW cs h = ownW (cs.take a) h ++ .tup [.int (a : Nat), x.w] :: (((cs.drop (a + 1)).zipIdx (a + 1)).filter fun z => isH h z.1).map fun z => .tup [.int (z.2 : Nat), z.1.w] := by
    unfold ownW
    conv => lhs; rw [d]
    rw [List.zipIdx_append, List.filter_append, List.map_append, List.zipIdx_cons, List.filter_cons, tl, Nat.zero_add]
    simp only [hh, if_true]
    rfl
  have el : (ownW (cs.take a) h).length = ((cs.take a).filter (isH h)).length := by
    unfold ownW
    rw [List.length_map, ← filter_zip h (cs.take a) 0, List.length_map]
  rw [e, ← el]
  refine ⟨by rw [List.getElem?_append_right (Nat.le_refl _)]; simp, fun i hi z => ?_⟩
  rw [List.getElem?_append_left hi] at z
  have hm := List.mem_of_getElem? z
  unfold ownW at hm
  obtain ⟨⟨y, j⟩, hy, e2⟩ := List.mem_map.mp hm
  have := (List.mem_filter.mp hy).1
  rw [List.mem_zipIdx_iff_getElem?] at this
  have hj := (List.getElem?_eq_some_iff.mp this).1
  simp at e2 hj
  omega
theorem nc_str {x : Str} (h : pl (.str x) = true) (h2 : x.cps.size ≤ 10) : Nc 10 (.str x) := ⟨h, rfl, Nat.zero_le _, h2⟩
theorem nc_two (w : Two) : Nc 10 (.str w.nm) := by cases w <;> exact nc_str (by decide +kernel) (by decide +kernel)
theorem nc_bk (w : Bk) : Nc 10 (.str w.nm) := by cases w <;> exact nc_str (by decide +kernel) (by decide +kernel)
theorem nc_th (w : Th) : Nc 10 (.str w.nm) := by cases w <;> exact nc_str (by decide +kernel) (by decide +kernel)
theorem nc_on (w : On) : Nc 10 (.str w.nm) := by cases w <;> exact nc_str (by decide +kernel) (by decide +kernel)
theorem nc_goto : Nc 10 (.str "goto") := nc_str (by decide +kernel) (by decide +kernel)
theorem nc_set : Nc 10 (.str "set") := nc_str (by decide +kernel) (by decide +kernel)
theorem nc_offer : Nc 10 (.str "offer") := nc_str (by decide +kernel) (by decide +kernel)
theorem nc_cons {k : Nat} {w : W} {ws : List W} (h : Nc k w) (d : dpW w ≤ 40) (t : ∀ x ∈ ws, Nc k x ∧ dpW x ≤ 40) : ∀ x ∈ w :: ws, Nc k x ∧ dpW x ≤ 40 := fun x hx => by
  rcases List.mem_cons.mp hx with e | e
  · rw [e]; exact ⟨h, d⟩
  · exact t x e
theorem nc_nil {k : Nat} : ∀ x ∈ ([] : List W), Nc k x ∧ dpW x ≤ 40 := fun _ h => by cases h
theorem cell_nc {c : Code} (hc : Cd c) {x : Cell} (hx : x ∈ c.cells) : Nc 66 x.w := by
  have hb := hc.bank
  have hl := hc.len
  obtain ⟨hv, hs, _, _, _, hf⟩ := hc.parts
  have hh : c.hues ≤ 5 := by
    unfold votesFit at hv
    simp only [Bool.and_eq_true, decide_eq_true_eq] at hv
    exact hv.2.1
  have hs : c.size ≤ 10000 := by
    unfold bt at hs
    simp only [Bool.and_eq_true, decide_eq_true_eq] at hs
    exact hs.2
  have hm : c.many ≤ 400 := by unfold Code.many; omega
  have fx := hf x hx
  have zero : ∀ i : Int, dpW (.int i) ≤ 40 := fun _ => Nat.zero_le _
  have zs : ∀ i : Str, dpW (.str i) ≤ 40 := fun _ => Nat.zero_le _
  cases x with
  | ins h i =>
    have fx : (bt 0 h (c.hues - 1) && i.fit c.size c.bank.length) = true := fx
    cases i with
    | set b n =>
      have fx : (bt 0 h (c.hues - 1) && (rg b && bt 0 n (c.size - 1))) = true := fx
      unfold bt rg at fx
      simp only [Bool.and_eq_true, decide_eq_true_eq] at fx
      exact (nc_tup (nc_cons (nc_int (by omega)) (zero _) (nc_cons nc_set (zs _) (nc_cons (nc_int (by omega)) (zero _) (nc_cons (nc_int (by omega)) (zero _) nc_nil))))).mono (by simp)
    | two w b d e =>
      have fx : (bt 0 h (c.hues - 1) && (rg b && (rg d && rg e))) = true := fx
      unfold bt rg at fx
      simp only [Bool.and_eq_true, decide_eq_true_eq] at fx
      exact (nc_tup (nc_cons (nc_int (by omega)) (zero _) (nc_cons (nc_two w) (zs _) (nc_cons (nc_int (by omega)) (zero _) (nc_cons (nc_int (by omega)) (zero _) (nc_cons (nc_int (by omega)) (zero _) nc_nil)))))).mono (by simp)
    | bnk w b d e l =>
      have fx : (bt 0 h (c.hues - 1) && ((rg b && rg d) && (bt 0 e c.bank.length && bt 1 l (c.bank.length - e)))) = true := fx
      unfold bt rg at fx
      simp only [Bool.and_eq_true, decide_eq_true_eq] at fx
      exact (nc_tup (nc_cons (nc_int (by omega)) (zero _) (nc_cons (nc_bk w) (zs _) (nc_cons (nc_int (by omega)) (zero _) (nc_cons (nc_int (by omega)) (zero _) (nc_cons (nc_int (by omega)) (zero _) (nc_cons (nc_int (by omega)) (zero _) nc_nil))))))).mono (by simp)
    | off r =>
      have fx : (bt 0 h (c.hues - 1) && rg r) = true := fx
      unfold bt rg at fx
      simp only [Bool.and_eq_true, decide_eq_true_eq] at fx
      exact (nc_tup (nc_cons (nc_int (by omega)) (zero _) (nc_cons nc_offer (zs _) (nc_cons (nc_int (by omega)) (zero _) nc_nil)))).mono (by simp)
  | thr w a n =>
    have fx : (bt 1 n c.hues && bt 0 a (match (generalizing := false) w with | .sho => 5 | .tur => c.many - 1 | .tak => 7)) = true := fx
    have fx2 : (1 ≤ n ∧ n ≤ c.hues) ∧ (0 ≤ a ∧ a ≤ 4000) := by
      cases w <;> (unfold bt at fx; simp only [Bool.and_eq_true, decide_eq_true_eq] at fx; omega)
    exact (nc_tup (nc_cons (nc_th w) (zs _) (nc_cons (nc_int (by omega)) (zero _) (nc_cons (nc_int (by omega)) (zero _) nc_nil)))).mono (by simp)
  | goto a =>
    have fx : bt 0 a (c.many - 1) = true := fx
    unfold bt at fx
    simp only [Bool.and_eq_true, decide_eq_true_eq] at fx
    exact (nc_tup (nc_cons nc_goto (zs _) (nc_cons (nc_int (by omega)) (zero _) nc_nil))).mono (by simp)
  | one w => exact (nc_tup (nc_cons (nc_on w) (zs _) nc_nil)).mono (by simp)
theorem vok_le {k m : Int} : ∀ {vs : List Int}, vok k vs = true → k + vs.length ≤ m → ∀ v ∈ vs, 0 ≤ k → 0 < v ∧ v ≤ m
  | [], _, _, v, hv, _ => by cases hv
  | u :: vs, h, hl, v, hv, hk => by
    rw [vok_cons] at h
    simp only [Bool.and_eq_true, decide_eq_true_eq] at h
    rw [List.length_cons] at hl
    rcases List.mem_cons.mp hv with e | e
    · subst e; omega
    · exact vok_le h.2.2 (by omega) v e (by omega)
theorem code_nc {c : Code} (hc : Cd c) : Nc 1000000 c.w := by
  have hb := hc.bank
  have hl := hc.len
  obtain ⟨hv, hs, _, hbk, _, _⟩ := hc.parts
  unfold votesFit at hv
  simp only [Bool.and_eq_true, decide_eq_true_eq] at hv
  unfold bt at hs
  simp only [Bool.and_eq_true, decide_eq_true_eq] at hs
  have a : Nc 30000 (isW c.votes) := by
    refine (nc_tup (k := 0) (ws := c.votes.map W.int) fun w hw => ?_).mono (by rw [List.length_map]; omega)
    obtain ⟨v, h, rfl⟩ := List.mem_map.mp hw
    have := vok_le (m := 6) hv.2.2 (by omega) v h (by decide)
    exact ⟨nc_int (by omega), Nat.zero_le _⟩
  have b : Nc 30000 (isW c.bank) := by
    refine (nc_tup (k := 0) (ws := c.bank.map W.int) fun w hw => ?_).mono (by rw [List.length_map]; omega)
    obtain ⟨v, h, rfl⟩ := List.mem_map.mp hw
    have := hbk v h
    unfold bt at this
    simp only [Bool.and_eq_true, decide_eq_true_eq] at this
    exact ⟨nc_int (by omega), Nat.zero_le _⟩
  have d : Nc 30000 (csW c.cells) := by
    refine (nc_tup (k := 66) (ws := c.cells.map Cell.w) fun w hw => ?_).mono (by rw [List.length_map]; omega)
    obtain ⟨v, h, rfl⟩ := List.mem_map.mp hw
    exact ⟨cell_nc hc h, Nat.le_trans (cell_dp v) (by decide)⟩
  exact (nc_tup (nc_cons a (Nat.le_trans (isW_dp _) (by decide)) (nc_cons (nc_int (by omega)) (Nat.zero_le _) (nc_cons d (Nat.le_trans (csW_dp _) (by decide)) (nc_cons b (Nat.le_trans (isW_dp _) (by decide)) nc_nil))))).mono (by simp)
theorem repr_code {c : Code} (hc : Cd c) {M : Mh} {R : MK} (k : R (.str (dW c.w).shown) M) : fRepr [c.w] M R := fRepr_tup (code_nc hc) k
theorem fits_hue {c : Code} (hc : Cd c) {h : Int} {i : Ins} (hx : Cell.ins h i ∈ c.cells) : 0 ≤ h ∧ h < c.votes.length := by
  have fx := hc.parts.2.2.2.2.2 _ hx
  have fx : (bt 0 h (c.hues - 1) && i.fit c.size c.bank.length) = true := fx
  unfold bt Code.hues at fx
  simp only [Bool.and_eq_true, decide_eq_true_eq] at fx
  omega
section
variable {q : Ads} {RX : MX} {M : Mh} {R : MK} {s : Addr} {n : Nat}
theorem L_draw {r : Int} (hs : Lv M s (n + 1)) (r0 : 0 < r) (r1 : r < 1000000) (k : ∀ i M2, 0 ≤ i → i < r → Af M s n M2 → R (.int i) M2) : sp__law_draw q RX [.ref s, .int r] M R := by
  obtain ⟨m, hm, e⟩ := hs
  obtain ⟨m', rfl⟩ : ∃ m', m = m' + 1 := ⟨m - 1, by omega⟩
  exact ⟨m', e, r0, by omega, fun i a b => k i _ a b ⟨m', by omega, rfl⟩⟩
theorem lv_at {p : Addr} {xs : List W} (hs : Lv M s n) (hp : M p = some (.lst xs)) : p ≠ s := fun z => by
  obtain ⟨m, _, e⟩ := hs
  subst z
  rw [hp] at e
  cases e
theorem L_pick {p : Addr} {ws : List W} (hp : M p = some (.lst ws)) (h0 : 0 < ws.length) (h1 : ws.length ≤ 10000) (hs : Lv M s (n + 1)) (k : ∀ w M2, w ∈ ws → Af M s n M2 → R w M2) : sp__law_pick q RX [.ref s, .ref p] M R := by
  rw [un__law_pick]
  simp only [mDef, mSeq, mIfS, mVal, mNot, mAnd, mOr, mAndV, mOrV, mNotV, mIf, mOp, mChain, mVar, mC, mTup, mLst, mArgs, mCall, mFn, mDGet, mAsg, mRet, mNext, mRaise, mDrop, mIsi, bindT, setAll, startM, List.map_cons, List.map_nil, List.length_cons, List.length_nil, List.replicate, List.cons_append, List.nil_append, List.getElem?_cons_zero, List.getElem?_cons_succ, List.set_cons_succ, List.set_cons_zero, Nat.zero_add, Nat.reduceAdd, Nat.reduceSub, fII, fIIc, fLt, fLe, fGt, fGe, fSub, fMul, fDiv, fMod, fPow, fAdd_int, fLen, items, if_true, List.reverse_cons, List.reverse_nil, fEq_int, fNe_int, fEq_str, fNe_str, List.length_map, mFor, miEnum, miSeq, miRg1, miRg2, mLc, wipeM, mYes, mIsN, mNotN, mMeth, mNeg, mSl, mPart, fSl, fList, mBrk, fI1, fI2, hp]
  refine L_draw hs (by omega) (by omega) fun i M2 a b hA => ?_
  have ps := lv_at hs hp
  have h2 : M2 p = some (.lst ws) := by rw [hA.ne ps]; exact hp
  obtain ⟨j, rfl⟩ : ∃ j : Nat, i = j := ⟨i.toNat, by omega⟩
  have hj : ws[j]? = some ws[j] := List.getElem?_eq_getElem (by omega)
  simp only [fIx, items, h2, at_nat hj]
  exact fg_of (k _ _ (List.getElem_mem _) hA)
/-- a pick from a written list -/
theorem L_pickN {ws : List W} (h0 : 0 < ws.length) (h1 : ws.length ≤ 10000) {p : Addr} {M0 : Mh} {K : Nat} (g : Go M0 s (n + 1) M) (hp : M p = none) (k : ∀ w M2, w ∈ ws → Go M0 s n M2 → (∀ a o, a ≠ s → M a = some o → M2 a = some o) → R w M2) : sp__law_pick q RX [.ref s, .ref p] (updM M p (.lst ws)) R := by
  refine L_pick updM_same h0 h1 (g.new hp).lv fun w M2 hw hA => k w M2 hw ((g.new hp).af hA) fun a o ha hM => ?_
  rw [hA.ne ha, updM_ne (ne_of_noneM hM hp)]
  exact hM
end
end K75


set_option Elab.async false
set_option linter.all false
set_option maxRecDepth 100000
set_option maxHeartbeats 8000000
namespace K75
open PySem PySem.Spec PyProof.Rows L2 ML
/-! # exchanges are right -/
section
variable {q : Ads} {RX : MX} {M : Mh} {R : MK} {s : Addr} {n : Nat}
theorem L_exchanges_right {c : Code} (hc : Cd c) (hs : Lv M s (n + 12)) (k : ∀ M2, Af M s n M2 → R (.bl true) M2) : sp__law_mk_exchanges_right q RX [.ref s, c.w] M R := by
  have hl := hc.len
  have hb := hc.bank
  rw [un__law_mk_exchanges_right]
  simp only [mDef, mSeq, mIfS, mVal, mNot, mAnd, mOr, mAndV, mOrV, mNotV, mIf, mOp, mChain, mVar, mC, mTup, mLst, mArgs, mCall, mFn, mDGet, mAsg, mRet, mNext, mRaise, mDrop, mIsi, bindT, setAll, startM, List.map_cons, List.map_nil, List.length_cons, List.length_nil, List.replicate, List.cons_append, List.nil_append, List.getElem?_cons_zero, List.getElem?_cons_succ, List.set_cons_succ, List.set_cons_zero, Nat.zero_add, Nat.reduceAdd, Nat.reduceSub, fII, fIIc, fLt, fLe, fGt, fGe, fSub, fMul, fDiv, fMod, fPow, fAdd_int, fLen, items, if_true, List.reverse_cons, List.reverse_nil, fEq_int, fNe_int, fEq_str, fNe_str, List.length_map, mFor, miEnum, miSeq, miRg1, miRg2, mLc, wipeM, mYes, mIsN, mNotN, mMeth, mNeg, mSl, mPart, fSl, fList, mBrk, fI1, fI2]
  refine ⟨by decide, ?_⟩
  refine forL_brk (fun i e M' => ∃ ds, Sch c.cells ds ∧ Go M s (n + 12 - i) M' ∧ ∃ a b d f g h i j l, e = [some (.ref s), some c.w, some (c.put ds).w, a, b, d, f, g, h, i, j, l])
    (fun e M' => ∃ ds, Sch c.cells ds ∧ Go M s (n + 6) M' ∧ ∃ a b d f g h i j l, e = [some (.ref s), some c.w, some (c.put ds).w, a, b, d, f, g, h, i, j, l]) _ _ _ ⟨c.cells, Sch.refl _, hs.go, none, none, none, none, none, none, none, none, none, rfl⟩ ?_ ?_ ?_
  · rintro i w e M' kk kb hw ⟨ds, sc, g, a, b, d, f, g', h, i', j, l, rfl⟩ hk hkb
    obtain ⟨i2, hi2, rfl⟩ := map_inv (by unfold rgW at hw; exact hw)
    have hi := (List.getElem?_eq_some_iff.mp hi2).1
    rw [List.length_range] at hi
    have hi : i < 6 := hi
    have hcd := sc.cd hc
    have hld : ds.length ≤ 400 := hcd.len
    refine ⟨trivial, _, rfl, ?_⟩
    simp only [mDef, mSeq, mIfS, mVal, mNot, mAnd, mOr, mAndV, mOrV, mNotV, mIf, mOp, mChain, mVar, mC, mTup, mLst, mArgs, mCall, mFn, mDGet, mAsg, mRet, mNext, mRaise, mDrop, mIsi, bindT, setAll, startM, List.map_cons, List.map_nil, List.length_cons, List.length_nil, List.replicate, List.cons_append, List.nil_append, List.getElem?_cons_zero, List.getElem?_cons_succ, List.set_cons_succ, List.set_cons_zero, Nat.zero_add, Nat.reduceAdd, Nat.reduceSub, fII, fIIc, fLt, fLe, fGt, fGe, fSub, fMul, fDiv, fMod, fPow, fAdd_int, fLen, items, if_true, List.reverse_cons, List.reverse_nil, fEq_int, fNe_int, fEq_str, fNe_str, List.length_map, mFor, miEnum, miSeq, miRg1, miRg2, mLc, wipeM, mYes, mIsN, mNotN, mMeth, mNeg, mSl, mPart, fSl, fList, mBrk, fI1, fI2, fIx_c2]
    refine L_mk_swaps (cs := (c.put ds).cells) (by show ds.length ≤ 1000; omega) fun p hp => ?_
    intro r hr
    have pr : p ≠ r := ne_of_noneM updM_same hr
    refine fEq_lst (xs := (spots ds).map nW) (ys := []) (by rw [updM_ne pr, updM_same]; rfl) updM_same (in_map (fun x => (nW_pl x).1) _) (by simp) (in_map (fun x => (nW_pl x).2) _) (by simp) fun b1 hb1 => ?_
    have g2 : Go M s (n + 12 - i) (updM (updM M' p (.lst ((spots (c.put ds).cells).map nW))) r (.lst [])) := (g.new hp).new hr
    cases b1 with
    | true => exact iteY rfl (hkb _ _ ⟨ds, sc, g2.mono (by omega), _, _, _, _, _, _, _, _, _, rfl⟩)
    | false =>
      refine iteN (by decide) ?_
      have ne : (spots ds).map nW ≠ [] := fun z => by have := hb1.mpr z; cases this
      have l0 : 0 < ((spots ds).map nW).length := List.length_pos_iff.mpr ne
      have l1 := spots_len ds
      refine L_pick (ws := (spots ds).map nW) (n := n + 12 - (i + 1)) (by rw [updM_ne pr, updM_same]; rfl) l0 (by rw [List.length_map]; omega) (g2.mono (by omega)).lv fun w M2 hw hA => ?_
      obtain ⟨a, ha, rfl⟩ := List.mem_map.mp hw
      have g3 := g2.af hA
      simp only [nW]
      have sc2 := sc.step ha
      have hcd2 := sc2.cd hc
      have x1 : ∀ {RX : MX} {M : Mh} {R : MK}, R (c.put (swapAt a ds)).w M → sp_exchanged q RX [(c.put ds).w, .int (a : Nat)] M R := fun k => L_exchanged hcd ha k
      have x2 : ∀ {RX : MX} {M : Mh} {R : MK}, R (c.put (swapAt a ds)).w M → sp__law_mk_swapped q RX [(c.put ds).w, .int (a : Nat)] M R := fun k => L_mk_swapped (c := c.put ds) (by show ds.length ≤ 1000; omega) ha k
      have x3 : ∀ {RX : MX} {M : Mh} {R : MK}, R (c.put ds).w M → sp_exchanged q RX [(c.put (swapAt a ds)).w, .int (a : Nat)] M R := fun {RX M R} k => L_exchanged hcd2 (spots_swap ha) (by
        have w3 : (c.put (swapAt a ds)).put (swapAt a (c.put (swapAt a ds)).cells) = c.put ds := by
          show c.put (swapAt a (swapAt a ds)) = _
          rw [swap_swap]
        rw [w3]
        exact k)
      have x4 : ∀ {M : Mh} {R : MK}, R (.str (dW (c.put (swapAt a ds)).w).shown) M → fRepr [(c.put (swapAt a ds)).w] M R := fun k => repr_code hcd2 k
      have x5 := code_ok (c.put ds)
      revert x1 x2 x3 x4 x5
      generalize hW : (c.put (swapAt a ds)).w = W1
      intro x1 x2 x3 x4 x5
      refine x1 (x4 (x2 (x4 (fNe_same rfl (iteN (by decide) (x3 (fNe_eq x5.1 x5.2 (iteN (by decide) ?_))))))))
      subst hW
      exact hk _ _ ⟨_, sc2, g3, _, _, _, _, _, _, _, _, _, rfl⟩
  · rintro e M' ⟨ds, sc, g, h⟩
    exact ⟨trivial, ds, sc, g.mono (by show n + 6 ≤ n + 12 - 6; omega), h⟩
  · rintro e M' ⟨ds, sc, g, a, b, d, f, g', h, i', j, l, rfl⟩
    have hcd := sc.cd hc
    have hld : ds.length = c.cells.length := skel_length sc.sk
    simp only [mDef, mSeq, mIfS, mVal, mNot, mAnd, mOr, mAndV, mOrV, mNotV, mIf, mOp, mChain, mVar, mC, mTup, mLst, mArgs, mCall, mFn, mDGet, mAsg, mRet, mNext, mRaise, mDrop, mIsi, bindT, setAll, startM, List.map_cons, List.map_nil, List.length_cons, List.length_nil, List.replicate, List.cons_append, List.nil_append, List.getElem?_cons_zero, List.getElem?_cons_succ, List.set_cons_succ, List.set_cons_zero, Nat.zero_add, Nat.reduceAdd, Nat.reduceSub, fII, fIIc, fLt, fLe, fGt, fGe, fSub, fMul, fDiv, fMod, fPow, fAdd_int, fLen, items, if_true, List.reverse_cons, List.reverse_nil, fEq_int, fNe_int, fEq_str, fNe_str, List.length_map, mFor, miEnum, miSeq, miRg1, miRg2, mLc, wipeM, mYes, mIsN, mNotN, mMeth, mNeg, mSl, mPart, fSl, fList, mBrk, fI1, fI2, fIx_c0, fIx_c2, fIx_c3, items_is]
    refine L_lists_right hcd (iteN (by decide) ?_)
    refine L_stretches hcd fun p hp => L_stretches hc fun r hr => ?_
    have pr : p ≠ r := ne_of_noneM updM_same hr
    have g2 := (g.new (o := .lst ((St (c.put ds).cells).map pW)) hp).new (o := .lst ((St c.cells).map pW)) hr
    refine fNe_lsts (xs := (St c.cells).map pW) (by rw [updM_ne pr, updM_same]; show some (MO.lst ((St ds).map pW)) = _; rw [sc.st]) updM_same (in_map pW_pl _) ?_
    refine iteN (by decide) (fNe_eq (isW_pl _) (Nat.le_trans (isW_dp _) (by decide)) (iteN (by decide) ?_))
    revert g2
    generalize updM (updM M' p (.lst ((St (c.put ds).cells).map pW))) r (.lst ((St c.cells).map pW)) = M3
    intro g2
    refine ⟨by rw [List.length_map]; have hv := hc.parts.1; unfold votesFit at hv; simp only [Bool.and_eq_true, decide_eq_true_eq] at hv; omega, ?_⟩
    refine forL_ind (fun i e M' => Go M s (n + 6) M' ∧ ∃ a b d f g h i j l, e = [some (.ref s), some c.w, some (c.put ds).w, a, b, d, f, g, h, i, j, l]) _ 0 _ _ ⟨g2, _, _, _, _, _, _, _, _, _, rfl⟩ ?_ ?_
    · rintro i w e M' kk hw ⟨g, a, b, d, f, g', h, i', j, l, rfl⟩ hk
      obtain ⟨i2, hi2, rfl⟩ := map_inv (by unfold rgW at hw; exact hw)
      have hi := (List.getElem?_eq_some_iff.mp hi2).1
      have hi2' := List.mem_of_getElem? hi2
      rw [List.mem_range] at hi2'
      refine ⟨trivial, _, rfl, ?_⟩
      simp only [mDef, mSeq, mIfS, mVal, mNot, mAnd, mOr, mAndV, mOrV, mNotV, mIf, mOp, mChain, mVar, mC, mTup, mLst, mArgs, mCall, mFn, mDGet, mAsg, mRet, mNext, mRaise, mDrop, mIsi, bindT, setAll, startM, List.map_cons, List.map_nil, List.length_cons, List.length_nil, List.replicate, List.cons_append, List.nil_append, List.getElem?_cons_zero, List.getElem?_cons_succ, List.set_cons_succ, List.set_cons_zero, Nat.zero_add, Nat.reduceAdd, Nat.reduceSub, fII, fIIc, fLt, fLe, fGt, fGe, fSub, fMul, fDiv, fMod, fPow, fAdd_int, fLen, items, if_true, List.reverse_cons, List.reverse_nil, fEq_int, fNe_int, fEq_str, fNe_str, List.length_map, mFor, miEnum, miSeq, miRg1, miRg2, mLc, wipeM, mYes, mIsN, mNotN, mMeth, mNeg, mSl, mPart, fSl, fList, mBrk, fI1, fI2]
      have hh : 0 ≤ (0 : Int) + (i2 : Nat) ∧ (0 : Int) + (i2 : Nat) < c.votes.length := by rw [List.length_map] at hi2'; omega
      refine L_mk_own_told hcd hh fun p hp => L_mk_own_told hc hh fun r hr => ?_
      have pr : p ≠ r := ne_of_noneM updM_same hr
      refine fNe_lsts (xs := (c.cells.filter (isH (0 + (i2 : Nat)))).map Cell.w) (by rw [updM_ne pr, updM_same]; show some (MO.lst ((ds.filter _).map Cell.w)) = _; rw [sc.own]) updM_same (in_map cell_ok _) ?_
      exact iteN (by decide) (hk _ _ ⟨(g.new hp).new hr, _, _, _, _, _, _, _, _, _, rfl⟩)
    · rintro e M' ⟨g, a, b, d, f, g', h, i', j, l, rfl⟩
      refine ⟨trivial, ?_⟩
      simp only [mDef, mSeq, mIfS, mVal, mNot, mAnd, mOr, mAndV, mOrV, mNotV, mIf, mOp, mChain, mVar, mC, mTup, mLst, mArgs, mCall, mFn, mDGet, mAsg, mRet, mNext, mRaise, mDrop, mIsi, bindT, setAll, startM, List.map_cons, List.map_nil, List.length_cons, List.length_nil, List.replicate, List.cons_append, List.nil_append, List.getElem?_cons_zero, List.getElem?_cons_succ, List.set_cons_succ, List.set_cons_zero, Nat.zero_add, Nat.reduceAdd, Nat.reduceSub, fII, fIIc, fLt, fLe, fGt, fGe, fSub, fMul, fDiv, fMod, fPow, fAdd_int, fLen, items, if_true, List.reverse_cons, List.reverse_nil, fEq_int, fNe_int, fEq_str, fNe_str, List.length_map, mFor, miEnum, miSeq, miRg1, miRg2, mLc, wipeM, mYes, mIsN, mNotN, mMeth, mNeg, mSl, mPart, fSl, fList, mBrk, fI1, fI2]
      refine ⟨by decide, ?_⟩
      refine forL_ind (fun i e M' => Go M s (n + 6 - i) M' ∧ ∃ a b d f g h i j l, e = [some (.ref s), some c.w, some (c.put ds).w, a, b, d, f, g, h, i, j, l]) _ 0 _ _ ⟨g, _, _, _, _, _, _, _, _, _, rfl⟩ ?_ ?_
      · rintro i w e M' kk hw ⟨g, a, b, d, f, g', h, i', j, l, rfl⟩ hk
        obtain ⟨i2, hi2, rfl⟩ := map_inv (by unfold rgW at hw; exact hw)
        have hi := (List.getElem?_eq_some_iff.mp hi2).1
        rw [List.length_range] at hi
        have hi : i < 6 := hi
        rw [Nat.zero_add] at g hk
        refine ⟨trivial, _, rfl, ?_⟩
        have hp0 := hc.pos
        have lm : (c.cells.map Cell.w).length = c.cells.length := List.length_map _
        simp only [mDef, mSeq, mIfS, mVal, mNot, mAnd, mOr, mAndV, mOrV, mNotV, mIf, mOp, mChain, mVar, mC, mTup, mLst, mArgs, mCall, mFn, mDGet, mAsg, mRet, mNext, mRaise, mDrop, mIsi, bindT, setAll, startM, List.map_cons, List.map_nil, List.length_cons, List.length_nil, List.replicate, List.cons_append, List.nil_append, List.getElem?_cons_zero, List.getElem?_cons_succ, List.set_cons_succ, List.set_cons_zero, Nat.zero_add, Nat.reduceAdd, Nat.reduceSub, fII, fIIc, fLt, fLe, fGt, fGe, fSub, fMul, fDiv, fMod, fPow, fAdd_int, fLen, items, if_true, List.reverse_cons, List.reverse_nil, fEq_int, fNe_int, fEq_str, fNe_str, List.length_map, mFor, miEnum, miSeq, miRg1, miRg2, mLc, wipeM, mYes, mIsN, mNotN, mMeth, mNeg, mSl, mPart, fSl, fList, mBrk, fI1, fI2, fIx_c2, items_cs]
        refine L_draw (n := n + 6 - (i + 1)) (g.mono (by omega)).lv (by omega) (by omega) fun z M2 z0 z1 hA => ?_
        have g2 := g.af hA
        obtain ⟨at', rfl⟩ : ∃ j : Nat, z = j := ⟨z.toNat, by omega⟩
        have hat : at' < c.cells.length := by omega
        obtain ⟨x, hx⟩ : ∃ x, c.cells[at']? = some x := ⟨_, List.getElem?_eq_getElem hat⟩
        simp only [csW, fIx_map hx]
        refine L_moved hc (sc.same hc) hld (by have := hc.bank; show c.bank.length ≤ 1000; omega) hat ?_
        simp only [fIx0, tyW_hd]
        show fIx (.tup (ds.map Cell.w)) (.int ((goal c.cells ds at' : Nat) : Int)) M2 _
        have hgo : ds[goal c.cells ds at']? = some x := by
          cases e : x.isS with
          | true => rw [(sc.goal_settle hx e).1]; exact (sc.goal_settle hx e).2
          | false => exact (sc.goal_ins hx e).1
        rw [fIx_map hgo]
        refine fNe_eq (cell_ok _).1 (cell_ok _).2 (iteN (by decide) ?_)
        cases e : x.isS with
        | true =>
          have := (sc.goal_settle hx e).1
          refine iteY (by decide) ?_
          show fNe (.int ((goal c.cells ds at' : Nat) : Int)) _ _ _
          rw [this]
          refine fNe_eq rfl (Nat.zero_le _) (iteN (by decide) (iteN (by decide) (hk _ _ ⟨g2, _, _, _, _, _, _, _, _, _, rfl⟩)))
        | false =>
          refine iteN (by decide) (iteN (by decide) (iteY (by decide) ?_))
          cases x with
          | ins h0 ii =>
            have hh := fits_hue hc (List.mem_of_getElem? hx)
            have hi1 : isH h0 (Cell.ins h0 ii) = true := by simp [isH, Cell.isS, Cell.hue]
            have o1 := own_at hgo hi1
            have o2 := own_at hx hi1
            have le := (sc.goal_ins hx e).2
            simp only [Cell.hd]
            refine L_instructions hcd hh fun p hp => ?_
            refine L_instructions hc hh fun r hr => ?_
            have pr : p ≠ r := ne_of_noneM updM_same hr
            have pl2 : ∀ cs : List Cell, ∀ w ∈ ownW cs h0, pl w = true ∧ dpW w ≤ 60 := fun cs w hw => by
              unfold ownW at hw
              obtain ⟨y, _, rfl⟩ := List.mem_map.mp hw
              refine ⟨by unfold pl pls; rw [show pl (.int (y.2 : Nat)) = true from rfl]; unfold pls; rw [cell_pl]; rfl, ?_⟩
              have := cell_dp y.1
              unfold dpW dpWs dpWs dpWs
              show max 0 (max (dpW y.1.w) 0) + 1 ≤ 60
              omega
            refine ⟨by simp only [lstAt, updM_ne pr, updM_same]; rfl, ?_⟩
            refine index_ok (ws := ownW ds h0) (by rw [updM_ne pr, updM_same]; rfl) (pl2 ds) o1.1 o1.2 ?_
            refine ⟨by simp only [lstAt, updM_same]; rfl, ?_⟩
            refine index_ok (ws := ownW c.cells h0) updM_same (pl2 c.cells) o2.1 o2.2 ?_
            have le2 : ((ds.take (goal c.cells ds at')).filter (isH h0)).length = ((c.cells.take at').filter (isH h0)).length := le
            rw [le2]
            refine fNe_eq rfl (Nat.zero_le _) (iteN (by decide) (hk _ _ ⟨(g2.new hp).new hr, _, _, _, _, _, _, _, _, _, rfl⟩))
          | _ => cases e
      · rintro e M' ⟨g, a, b, d, f, g', h, i', j, l, rfl⟩
        refine ⟨trivial, ?_⟩
        simp only [mDef, mSeq, mIfS, mVal, mNot, mAnd, mOr, mAndV, mOrV, mNotV, mIf, mOp, mChain, mVar, mC, mTup, mLst, mArgs, mCall, mFn, mDGet, mAsg, mRet, mNext, mRaise, mDrop, mIsi, bindT, setAll, startM, List.map_cons, List.map_nil, List.length_cons, List.length_nil, List.replicate, List.cons_append, List.nil_append, List.getElem?_cons_zero, List.getElem?_cons_succ, List.set_cons_succ, List.set_cons_zero, Nat.zero_add, Nat.reduceAdd, Nat.reduceSub, fII, fIIc, fLt, fLe, fGt, fGe, fSub, fMul, fDiv, fMod, fPow, fAdd_int, fLen, items, if_true, List.reverse_cons, List.reverse_nil, fEq_int, fNe_int, fEq_str, fNe_str, List.length_map, mFor, miEnum, miSeq, miRg1, miRg2, mLc, wipeM, mYes, mIsN, mNotN, mMeth, mNeg, mSl, mPart, fSl, fList, mBrk, fI1, fI2]
        exact (g.mono (m := n) (by show n ≤ n + 6 - (0 + 6); omega)).close k
end
end K75


set_option Elab.async false
set_option linter.all false
set_option maxRecDepth 100000
set_option maxHeartbeats 8000000
namespace K75
open PySem PySem.Spec PyProof.Rows L2 ML
/-! # what is refused -/
theorem fSl_code {c : Code} {M : Mh} {R : MK} : fSl c.w none (some 3) M R = R (.tup [isW c.votes, .int c.size, csW c.cells]) M := rfl
theorem fList_code {c : Code} {M : Mh} {R : MK} : fList [c.w] M R = ∀ p, M p = none → R (.ref p) (updM M p (.lst [isW c.votes, .int c.size, csW c.cells, isW c.bank])) := rfl
theorem fSl_ins {h : Int} {i : Ins} {M : Mh} {R : MK} : fSl (Cell.ins h i).w (some 1) none M R = R (.tup i.ws) M := by
  have : cutW (.int h :: i.ws) (some 1) none = i.ws := cut_dropI (n := 1) rfl (by simp)
  show R (.tup (cutW (.int h :: i.ws) (some 1) none)) M = _
  rw [this]
theorem fSl_cs {cs : List Cell} {lo hi : Option Int} {M : Mh} {R : MK} : fSl (csW cs) lo hi M R = R (.tup (cutW (cs.map Cell.w) lo hi)) M := rfl
theorem add_cs {xs ys : List Cell} {M : Mh} {R : MK} (hl : xs.length + ys.length ≤ 1000000) (k : R (csW (xs ++ ys)) M) : fAdd (csW xs) (csW ys) M R := by
  refine cat_tup (by simpa using hl) ?_
  rw [← List.map_append]
  exact k
theorem cut_two (cs : List Cell) (i j : Nat) {x y : Int} (hx : x = (i : Nat)) (hy : y = (j : Nat)) : ∃ ts : List Cell, cutW (cs.map Cell.w) (some x) (some y) = ts.map Cell.w ∧ ts.length ≤ j - i := by
  subst hx
  subst hy
  refine ⟨(cs.drop (min i cs.length)).take (min j cs.length - min i cs.length), ?_, ?_⟩
  · unfold cutW
    rw [HT.sIx_nat, HT.sIx_nat, List.length_map, List.map_take, List.map_drop]
  · rw [List.length_take]
    omega
theorem cut_tail (cs : List Cell) (i : Nat) {x : Int} (hx : x = (i : Nat)) : ∃ ts : List Cell, cutW (cs.map Cell.w) (some x) none = ts.map Cell.w ∧ ts.length ≤ cs.length := by
  subst hx
  refine ⟨cs.drop (min i cs.length), ?_, by rw [List.length_drop]; omega⟩
  unfold cutW
  rw [HT.sIx_none, HT.sIx_nat, List.length_map, List.take_of_length_le (by simp), List.map_drop]
theorem same_ord {c : Code} {ds : List Cell} (h : Same c (c.put ds)) : ord ds = ord c.cells := congrArg Code.cells h.2
def freshC : Cell → Cell
  | .ins h i => .ins (h + 1) i
  | .one .stop => .one .mark
  | _ => .one .stop
theorem freshC_ne (x : Cell) : freshC x ≠ x := by
  cases x with
  | ins h i =>
    intro z
    simp only [freshC, Cell.ins.injEq] at z
    omega
  | thr w a n => intro z; cases z
  | goto a => intro z; cases z
  | one w => cases w <;> (intro z; cases z)
section
variable {q : Ads} {RX : MX} {M : Mh} {R : MK} {s : Addr} {n : Nat}
theorem noS_split {D : MEnds} {rest : MS} {c : Code} (hc : Cd c) (hs : Lv M s (n + 1)) (k : ∀ (a : Nat) (x : Cell) M2, c.cells[a]? = some x → Af M s n M2 → rest RX D [some (.ref s), some c.w, some x.w, some (freshC x).w, none, none, some (csW c.cells), some (.int (a : Nat))] M2) :
    mSeq (mAsg (mTup [mOp fIx (mVar 1) (mC (.int 2)), mCall (sp__law_draw q) [mVar 0, mFn fLen [mOp fIx (mVar 1) (mC (.int 2))]]]) (.tp [6, 7])) (mSeq (mAsg (mOp fIx (mVar 6) (mVar 7)) (.nm 2)) (mSeq (mAsg (mIf (mVal (mIsi .int (mOp fIx (mVar 2) (mC (.int 0))))) (mOp fAdd (mTup [mOp fAdd (mOp fIx (mVar 2) (mC (.int 0))) (mC (.int 1))]) (mSl (mVar 2) (some (mC (.int 1))) none)) (mTup [mC (.str "stop")])) (.nm 3)) (mSeq (mIfS (mVal (mOp fEq (mVar 2) (mTup [mC (.str "stop")]))) (mAsg (mTup [mC (.str "mark")]) (.nm 3)) (mNext)) rest))) RX D [some (.ref s), some c.w, none, none, none, none, none, none] M := by
  have hl := hc.len
  have hp0 := hc.pos
  have lm : (c.cells.map Cell.w).length = c.cells.length := List.length_map _
  simp only [mDef, mSeq, mIfS, mVal, mNot, mAnd, mOr, mAndV, mOrV, mNotV, mIf, mOp, mChain, mVar, mC, mTup, mLst, mArgs, mCall, mFn, mDGet, mAsg, mRet, mNext, mRaise, mDrop, mIsi, bindT, setAll, startM, List.map_cons, List.map_nil, List.length_cons, List.length_nil, List.replicate, List.cons_append, List.nil_append, List.getElem?_cons_zero, List.getElem?_cons_succ, List.set_cons_succ, List.set_cons_zero, Nat.zero_add, Nat.reduceAdd, Nat.reduceSub, fII, fIIc, fLt, fLe, fGt, fGe, fSub, fMul, fDiv, fMod, fPow, fAdd_int, fLen, items, if_true, List.reverse_cons, List.reverse_nil, fEq_int, fNe_int, fEq_str, fNe_str, List.length_map, mFor, miEnum, miSeq, miRg1, miRg2, mLc, wipeM, mYes, mIsN, mNotN, mMeth, mNeg, mSl, mPart, mBrk, fI1, fI2, fIx_c2, items_cs]
  refine L_draw hs (by omega) (by omega) fun z M2 z0 z1 hA => ?_
  obtain ⟨a, rfl⟩ : ∃ j : Nat, z = j := ⟨z.toNat, by omega⟩
  obtain ⟨x, hx⟩ : ∃ x, c.cells[a]? = some x := ⟨_, List.getElem?_eq_getElem (by omega)⟩
  show fIx (.tup (c.cells.map Cell.w)) (.int (a : Nat)) M2 _
  rw [fIx_map hx]
  have kk := k a x M2 hx hA
  have stop : ∀ {R : MK} (y : Cell), (y ≠ .one .stop → R (.bl false) M2) → (y = .one .stop → R (.bl true) M2) → fEq y.w (.tup [.str "stop"]) M2 R := fun {R} y h1 h2 => by
    refine fEq_pl (x := y.w) (y := (Cell.one .stop).w) (cell_pl y) (cell_pl _) (cell_ok y).2 (cell_ok _).2 fun b hb => ?_
    cases b with
    | true => exact h2 (Cell.w_inj (hb.mp rfl))
    | false => exact h1 fun z => by have := hb.mpr (by rw [z]); cases this
  cases x with
  | ins h i =>
    simp only [fIx0, tyW_hd, Cell.hd, fSl_ins, mDef, mSeq, mIfS, mVal, mNot, mAnd, mOr, mAndV, mOrV, mNotV, mIf, mOp, mChain, mVar, mC, mTup, mLst, mArgs, mCall, mFn, mDGet, mAsg, mRet, mNext, mRaise, mDrop, mIsi, bindT, setAll, startM, List.map_cons, List.map_nil, List.length_cons, List.length_nil, List.replicate, List.cons_append, List.nil_append, List.getElem?_cons_zero, List.getElem?_cons_succ, List.set_cons_succ, List.set_cons_zero, Nat.zero_add, Nat.reduceAdd, Nat.reduceSub, fII, fIIc, fLt, fLe, fGt, fGe, fSub, fMul, fDiv, fMod, fPow, fAdd_int, fLen, items, if_true, List.reverse_cons, List.reverse_nil, fEq_int, fNe_int, fEq_str, fNe_str, List.length_map, mFor, miEnum, miSeq, miRg1, miRg2, mLc, wipeM, mYes, mIsN, mNotN, mMeth, mNeg, mSl, mPart, mBrk, fI1, fI2, isT]
    refine iteY (by decide) (cat_tup (by cases i <;> simp [Ins.ws]) ?_)
    refine stop _ (fun _ => iteN (by decide) ?_) (fun z => by cases z)
    exact kk
  | thr w a' n' =>
    simp only [fIx0, tyW_hd]
    refine iteN (show ¬ isT (if true = true then Ty.str else .int) .int = true by decide) ?_
    refine stop _ (fun _ => iteN (by decide) ?_) (fun z => by cases z)
    exact kk
  | goto a' =>
    simp only [fIx0, tyW_hd]
    refine iteN (show ¬ isT (if true = true then Ty.str else .int) .int = true by decide) ?_
    refine stop _ (fun _ => iteN (by decide) ?_) (fun z => by cases z)
    exact kk
  | one w =>
    simp only [fIx0, tyW_hd]
    refine iteN (show ¬ isT (if true = true then Ty.str else .int) .int = true by decide) ?_
    cases w with
    | stop =>
      refine stop _ (fun z => absurd rfl z) (fun _ => iteY (by decide) ?_)
      exact kk
    | mark =>
      refine stop _ (fun _ => iteN (by decide) ?_) (fun z => by cases z)
      exact kk
theorem L_no_schedules {c : Code} (hc : Cd c) (hs : Lv M s (n + 1)) (k : ∀ p vals M2, Go M s n M2 → M2 p = some (.lst vals) → vals.length ≤ 10 → (∀ v ∈ vals, Val M2 c v false) → R (.ref p) M2) : sp__law_mk_no_schedules q RX [.ref s, c.w] M R := by
  have hl := hc.len
  have hb := hc.bank
  rw [un__law_mk_no_schedules]
  unfold mDef
  refine noS_split hc hs fun a x M2 hx hA => ?_
  have g := hs.go.af hA
  have hlt := (List.getElem?_eq_some_iff.mp hx).1
  have lm : (c.cells.map Cell.w).length = c.cells.length := List.length_map _
  have ea1 : (a : Int) + 1 = ((a + 1 : Nat) : Int) := by omega
  simp only [mDef, mSeq, mIfS, mVal, mNot, mAnd, mOr, mAndV, mOrV, mNotV, mIf, mOp, mChain, mVar, mC, mTup, mLst, mArgs, mCall, mFn, mDGet, mAsg, mRet, mNext, mRaise, mDrop, mIsi, bindT, setAll, startM, List.map_cons, List.map_nil, List.length_cons, List.length_nil, List.replicate, List.cons_append, List.nil_append, List.getElem?_cons_zero, List.getElem?_cons_succ, List.set_cons_succ, List.set_cons_zero, Nat.zero_add, Nat.reduceAdd, Nat.reduceSub, fII, fIIc, fLt, fLe, fGt, fGe, fSub, fMul, fDiv, fMod, fPow, fAdd_int, fLen, items, if_true, List.reverse_cons, List.reverse_nil, fEq_int, fNe_int, fEq_str, fNe_str, List.length_map, mFor, miEnum, miSeq, miRg1, miRg2, mLc, wipeM, mYes, mIsN, mNotN, mMeth, mNeg, mSl, mPart, mBrk, fI1, fI2, fIx_c0, fIx_c1, fIx_c2, fIx_c3, fSl_code, fList_code, fSl_cs]
  intro l hl0
  refine add_cs (xs := c.cells) (ys := [.one .stop]) (by simp; omega) ?_
  intro p hp
  simp only [lstAt, updM_same]
  refine ⟨rfl, ?_⟩
  rw [cut_takeI rfl (by omega), cut_dropI ea1 (by omega), ← List.map_take, ← List.map_drop]
  refine add_cs (xs := c.cells.take a) (ys := [freshC x]) (by simp; omega) (add_cs (ys := c.cells.drop (a + 1)) (by simp; omega) ?_)
  refine app_ok updM_same (by simp) ?_
  obtain ⟨t1, e1, l1⟩ := cut_two c.cells (a + 1) (a + 2) (x := (a : Int) + 1) (y := (a : Int) + 2) (by omega) (by omega)
  obtain ⟨t2, e2, l2⟩ := cut_two c.cells a (a + 1) (x := (a : Int)) (y := (a : Int) + 1) rfl (by omega)
  obtain ⟨t3, e3, l3⟩ := cut_tail c.cells (a + 2) (x := (a : Int) + 2) (by omega)
  rw [e1, e2, e3]
  have lt : (c.cells.take a).length ≤ 400 := by rw [List.length_take]; omega
  refine add_cs (xs := c.cells.take a) (by omega) (add_cs (by rw [List.length_append]; omega) (add_cs (by rw [List.length_append, List.length_append]; omega) ?_))
  have ltt : (c.cells.take a ++ t1 ++ t2 ++ t3).length ≤ 1000 := by rw [List.length_append, List.length_append, List.length_append]; omega
  generalize c.cells.take a ++ t1 ++ t2 ++ t3 = ts at ltt ⊢
  have lp : l ≠ p := ne_of_noneM updM_same hp
  rw [updM_upd]
  have g2 := (g.new (o := .lst [isW c.votes, .int c.size, csW c.cells, isW c.bank]) hl0).new (o := .lst ([W.non, .int 5, .tup [isW c.votes, .int c.size, csW c.cells], .ref l, (c.put (c.cells ++ [.one .stop])).w] ++ [(c.put (c.cells.take a ++ [freshC x] ++ c.cells.drop (a + 1))).w])) hp
  have hl4 : ∀ u, updM (updM M2 l (.lst [isW c.votes, .int c.size, csW c.cells, isW c.bank])) p u l = some (.lst [isW c.votes, .int c.size, csW c.cells, isW c.bank]) := fun u => by rw [updM_ne lp, updM_same]
  have hl3 := hl4 (.lst ([W.non, .int 5, .tup [isW c.votes, .int c.size, csW c.cells], .ref l, (c.put (c.cells ++ [.one .stop])).w] ++ [(c.put (c.cells.take a ++ [freshC x] ++ c.cells.drop (a + 1))).w]))
  have hp3 : updM (updM M2 l (.lst [isW c.votes, .int c.size, csW c.cells, isW c.bank])) p (.lst ([W.non, .int 5, .tup [isW c.votes, .int c.size, csW c.cells], .ref l, (c.put (c.cells ++ [.one .stop])).w] ++ [(c.put (c.cells.take a ++ [freshC x] ++ c.cells.drop (a + 1))).w])) p = some (.lst ([W.non, .int 5, .tup [isW c.votes, .int c.size, csW c.cells], .ref l, (c.put (c.cells ++ [.one .stop])).w] ++ [(c.put (c.cells.take a ++ [freshC x] ++ c.cells.drop (a + 1))).w])) := updM_same
  have first : ∀ M3 : Mh, M3 l = some (.lst [isW c.votes, .int c.size, csW c.cells, isW c.bank]) → ∀ v ∈ [W.non, .int 5, .tup [isW c.votes, .int c.size, csW c.cells], .ref l, (c.put (c.cells ++ [.one .stop])).w] ++ [(c.put (c.cells.take a ++ [freshC x] ++ c.cells.drop (a + 1))).w], Val M3 c v false := fun M3 h3 v hv => by
    simp only [List.mem_append, List.mem_cons, List.not_mem_nil, or_false] at hv
    rcases hv with (rfl | rfl | rfl | rfl | rfl) | rfl
    · exact .odd (.inl rfl)
    · exact .odd (.inr (.inl rfl))
    · exact .odd (.inr (.inr (.inl ⟨_, _, _, rfl⟩)))
    · exact .odd (.inr (.inr (.inr ⟨l, _, rfl, h3⟩)))
    · exact .not (by show c.bank.length ≤ 1000; omega) (by show (c.cells ++ [Cell.one .stop]).length ≤ 1000; rw [List.length_append]; simp; omega) fun z => ord_longer (same_ord z)
    · refine .not (by show c.bank.length ≤ 1000; omega) (by show (c.cells.take a ++ [freshC x] ++ c.cells.drop (a + 1)).length ≤ 1000; simp; omega) fun z => ?_
      have := same_ord z
      rw [List.append_assoc] at this
      exact ord_fresh hx (freshC_ne x) this
  show sp__law_mk_ordered q (fgX RX) [(c.put ts).w] (updM (updM M2 l (.lst [isW c.votes, .int c.size, csW c.cells, isW c.bank])) p (.lst ([W.non, .int 5, .tup [isW c.votes, .int c.size, csW c.cells], .ref l, (c.put (c.cells ++ [.one .stop])).w] ++ [(c.put (c.cells.take a ++ [freshC x] ++ c.cells.drop (a + 1))).w]))) _
  have hlen : ([W.non, .int 5, .tup [isW c.votes, .int c.size, csW c.cells], .ref l, (c.put (c.cells ++ [.one .stop])).w] ++ [(c.put (c.cells.take a ++ [freshC x] ++ c.cells.drop (a + 1))).w]).length ≤ 6 := by simp
  clear hl4 hp
  revert g2 hl3 hp3 first hlen
  generalize [W.non, .int 5, .tup [isW c.votes, .int c.size, csW c.cells], .ref l, (c.put (c.cells ++ [.one .stop])).w] ++ [(c.put (c.cells.take a ++ [freshC x] ++ c.cells.drop (a + 1))).w] = vals
  generalize updM (updM M2 l (.lst [isW c.votes, .int c.size, csW c.cells, isW c.bank])) p (.lst vals) = M4
  intro g2 hl3 hp3 first hlen
  refine L_mk_ordered ltt (L_mk_ordered (by omega) (fNe_pl (code_pl _) (code_pl _) (code_ok _).2 (code_ok _).2 fun b hb => ?_))
  cases b with
  | false => exact iteN (by decide) (fg_of (k p vals M4 g2 hp3 (by omega) (first M4 hl3)))
  | true =>
    refine iteY rfl fun t ht => ?_
    have pt : p ≠ t := ne_of_noneM hp3 ht
    have lt2 : l ≠ t := ne_of_noneM hl3 ht
    refine cat_ok (by rw [updM_ne pt]; exact hp3) updM_same (by simp; omega) fun p2 hp2 => ?_
    have lp2 : l ≠ p2 := ne_of_noneM (by rw [updM_ne lt2]; exact hl3) hp2
    refine fg_of (k p2 (vals ++ [(c.put ts).w]) _ ((g2.new ht).new hp2) updM_same (by simp; omega) fun v hv => ?_)
    rcases List.mem_append.mp hv with h | h
    · exact first _ (by rw [updM_ne lp2, updM_ne lt2]; exact hl3) v h
    · rw [List.mem_singleton] at h
      subst h
      refine .not (by show c.bank.length ≤ 1000; omega) ltt fun z => ?_
      have h1 := hb.mp rfl
      exact h1 (by rw [z.2])
theorem val_up {c : Code} {v : W} {b : Bool} {M M2 : Mh} (h : Val M c v b) (hm : ∀ a xs, M a = some (.lst xs) → M2 a = some (.lst xs)) : Val M2 c v b := by
  cases h with
  | yes a b c => exact .yes a b c
  | not a b c => exact .not a b c
  | odd h =>
    rcases h with h | h | h | ⟨p, xs, h1, h2⟩
    · exact .odd (.inl h)
    · exact .odd (.inr (.inl h))
    · exact .odd (.inr (.inr (.inl h)))
    · exact .odd (.inr (.inr (.inr ⟨p, xs, h1, hm _ _ h2⟩)))
theorem L_odd {c : Code} {p l : Addr} (hp : M p = some (.lst [.non, .int 5, .tup [isW c.votes, .int c.size, csW c.cells], .ref l])) (hl : M l = some (.lst [isW c.votes, .int c.size, csW c.cells, isW c.bank])) (hs : Lv M s (n + 1)) (k : ∀ v M2, NoC M2 v → Af M s n M2 → R v M2) : sp__law_pick q RX [.ref s, .ref p] M R := by
  refine L_pick hp (by simp) (by simp) hs fun w M2 hw hA => k w M2 ?_ hA
  simp only [List.mem_cons, List.not_mem_nil, or_false] at hw
  rcases hw with rfl | rfl | rfl | rfl
  · exact .inl rfl
  · exact .inr (.inl rfl)
  · exact .inr (.inr (.inl ⟨_, _, _, rfl⟩))
  · exact .inr (.inr (.inr ⟨l, _, rfl, by rw [hA.ne (lv_at hs hl)]; exact hl⟩))
theorem L_refused {c : Code} (hc : Cd c) (hs : Lv M s (n + 2)) (k : ∀ M2, Af M s n M2 → R (.bl true) M2) : sp__law_mk_refused_right q RX [.ref s, c.w] M R := by
  rw [un__law_mk_refused_right]
  simp only [mDef, mSeq, mIfS, mVal, mNot, mAnd, mOr, mAndV, mOrV, mNotV, mIf, mOp, mChain, mVar, mC, mTup, mLst, mArgs, mCall, mFn, mDGet, mAsg, mRet, mNext, mRaise, mDrop, mIsi, bindT, setAll, startM, List.map_cons, List.map_nil, List.length_cons, List.length_nil, List.replicate, List.cons_append, List.nil_append, List.getElem?_cons_zero, List.getElem?_cons_succ, List.set_cons_succ, List.set_cons_zero, Nat.zero_add, Nat.reduceAdd, Nat.reduceSub, fII, fIIc, fLt, fLe, fGt, fGe, fSub, fMul, fDiv, fMod, fPow, fAdd_int, fLen, items, if_true, List.reverse_cons, List.reverse_nil, fEq_int, fNe_int, fEq_str, fNe_str, List.length_map, mFor, miEnum, miSeq, miRg1, miRg2, mLc, wipeM, mYes, mIsN, mNotN, mMeth, mNeg, mSl, mPart, mBrk, fI1, fI2, mIsE, mCaught]
  refine L_no_schedules (n := n + 1) hc hs fun p vals M2 g hp hlen hv => ?_
  simp only [hp]
  refine forL_ind (fun i e M' => Go M s (n + 1) M' ∧ M' p = some (.lst vals) ∧ (∀ v ∈ vals, Val M' c v false) ∧ ∃ a b, e = [some (.ref s), some c.w, a, b]) _ 0 _ _ ⟨g, hp, hv, none, none, rfl⟩ ?_ ?_
  · rintro i w e M' kk hw ⟨g, hp, hv, a, b, rfl⟩ hk
    refine ⟨hp, _, rfl, ?_⟩
    have hv1 := hv w (List.mem_of_getElem? hw)
    simp only [mDef, mSeq, mIfS, mVal, mNot, mAnd, mOr, mAndV, mOrV, mNotV, mIf, mOp, mChain, mVar, mC, mTup, mLst, mArgs, mCall, mFn, mDGet, mAsg, mRet, mNext, mRaise, mDrop, mIsi, bindT, setAll, startM, List.map_cons, List.map_nil, List.length_cons, List.length_nil, List.replicate, List.cons_append, List.nil_append, List.getElem?_cons_zero, List.getElem?_cons_succ, List.set_cons_succ, List.set_cons_zero, Nat.zero_add, Nat.reduceAdd, Nat.reduceSub, fII, fIIc, fLt, fLe, fGt, fGe, fSub, fMul, fDiv, fMod, fPow, fAdd_int, fLen, items, if_true, List.reverse_cons, List.reverse_nil, fEq_int, fNe_int, fEq_str, fNe_str, List.length_map, mFor, miEnum, miSeq, miRg1, miRg2, mLc, wipeM, mYes, mIsN, mNotN, mMeth, mNeg, mSl, mPart, mBrk, fI1, fI2, mIsE, mCaught]
    refine X_moved hc hv1 ⟨.inr (.inr (.inr rfl)), fun a1 ha1 => ⟨updM_same, ?_⟩⟩
    refine iteN (by decide) ?_
    have up1 : ∀ a xs, M' a = some (.lst xs) → updM M' a1 (.exc (.ref q.NotSchedule)) a = some (.lst xs) := fun a xs h => by rw [updM_ne (ne_of_noneM h ha1)]; exact h
    refine X_moved hc (val_up hv1 up1) ⟨.inr (.inr (.inr rfl)), fun a2 ha2 => ⟨updM_same, ?_⟩⟩
    have up2 : ∀ a xs, M' a = some (.lst xs) → updM (updM M' a1 (.exc (.ref q.NotSchedule))) a2 (.exc (.ref q.NotSchedule)) a = some (.lst xs) := fun a xs h => by rw [updM_ne (ne_of_noneM (up1 a xs h) ha2)]; exact up1 a xs h
    exact iteN (by decide) (hk _ _ ⟨(g.new ha1).new ha2, up2 _ _ hp, fun v h => val_up (hv v h) up2, _, _, rfl⟩)
  · rintro e M' ⟨g, hp, hv, a, b, rfl⟩
    refine ⟨hp, ?_⟩
    simp only [mDef, mSeq, mIfS, mVal, mNot, mAnd, mOr, mAndV, mOrV, mNotV, mIf, mOp, mChain, mVar, mC, mTup, mLst, mArgs, mCall, mFn, mDGet, mAsg, mRet, mNext, mRaise, mDrop, mIsi, bindT, setAll, startM, List.map_cons, List.map_nil, List.length_cons, List.length_nil, List.replicate, List.cons_append, List.nil_append, List.getElem?_cons_zero, List.getElem?_cons_succ, List.set_cons_succ, List.set_cons_zero, Nat.zero_add, Nat.reduceAdd, Nat.reduceSub, fII, fIIc, fLt, fLe, fGt, fGe, fSub, fMul, fDiv, fMod, fPow, fAdd_int, fLen, items, if_true, List.reverse_cons, List.reverse_nil, fEq_int, fNe_int, fEq_str, fNe_str, List.length_map, mFor, miEnum, miSeq, miRg1, miRg2, mLc, wipeM, mYes, mIsN, mNotN, mMeth, mNeg, mSl, mPart, mBrk, fI1, fI2, mIsE, mCaught, fSl_code, fList_code]
    intro l hl p2 hp2
    have lp : l ≠ p2 := ne_of_noneM updM_same hp2
    refine L_odd (n := n) updM_same (by rw [updM_ne lp, updM_same]) ((g.new hl).new hp2).lv fun v M3 hv3 hA => ?_
    refine X_moved_no hv3 ⟨.inl rfl, fun a3 ha3 => ⟨updM_same, ?_⟩⟩
    exact ((((g.new hl).new hp2).af hA).new ha3).close k
end
end K75


set_option Elab.async false
set_option linter.all false
set_option maxRecDepth 100000
set_option maxHeartbeats 8000000
namespace K75
open PySem PySem.Spec PyProof.Rows L2 ML
/-! # generators -/
theorem votesFit_len {vs : List Int} (h : votesFit vs = true) : 1 ≤ vs.length ∧ vs.length ≤ 5 := by
  unfold votesFit at h
  simp only [Bool.and_eq_true, decide_eq_true_eq] at h
  omega
theorem vok_snoc {v : Int} : ∀ {vs : List Int} {k : Int}, vok k vs = true → k + vs.length < 2 * v → 2 * v ≤ 2 * (k + vs.length) → vok k (vs ++ [v]) = true
  | [], k, _, a, b => by
    rw [List.nil_append, vok_cons]
    simp at a b
    simp [vok]
    omega
  | u :: vs, k, h, a, b => by
    rw [vok_cons] at h
    rw [List.cons_append, vok_cons]
    simp only [Bool.and_eq_true, decide_eq_true_eq] at h ⊢
    rw [List.length_cons] at a b
    exact ⟨h.1, h.2.1, vok_snoc h.2.2 (by omega) (by omega)⟩
section
variable {q : Ads} {RX : MX} {M : Mh} {R : MK} {s : Addr} {n : Nat}
theorem L_number {z : Int} (hz : 2 ≤ z ∧ z ≤ 10000) (hs : Lv M s (n + 2)) (k : ∀ i M2, 0 ≤ i → i < z → Af M s n M2 → R (.int i) M2) : sp__law_number q RX [.ref s, .int z] M R := by
  rw [un__law_number]
  simp only [mDef, mSeq, mIfS, mVal, mNot, mAnd, mOr, mAndV, mOrV, mNotV, mIf, mOp, mChain, mVar, mC, mTup, mLst, mArgs, mCall, mFn, mDGet, mAsg, mRet, mNext, mRaise, mDrop, mIsi, bindT, setAll, startM, List.map_cons, List.map_nil, List.length_cons, List.length_nil, List.replicate, List.cons_append, List.nil_append, List.getElem?_cons_zero, List.getElem?_cons_succ, List.set_cons_succ, List.set_cons_zero, Nat.zero_add, Nat.reduceAdd, Nat.reduceSub, fII, fIIc, fLt, fLe, fGt, fGe, fSub, fMul, fDiv, fMod, fPow, fAdd_int, fLen, items, if_true, List.reverse_cons, List.reverse_nil, fEq_int, fNe_int, fEq_str, fNe_str, List.length_map, mFor, miEnum, miSeq, miRg1, miRg2, mLc, wipeM, mYes, mIsN, mNotN, mMeth, mNeg, mSl, mPart, mBrk, fI1, fI2]
  refine L_draw (n := n + 1) hs (by omega) (by omega) fun i M2 a b hA => ?_
  intro p hp
  have g := hs.go.af hA
  refine L_pick updM_same (by simp) (by simp) (g.new hp).lv fun w M3 hw hA3 => ?_
  obtain ⟨j, rfl⟩ : ∃ j, w = .int j := by
    simp only [List.mem_cons, List.not_mem_nil, or_false] at hw
    rcases hw with h | h | h | h | h | h | h | h | h <;> exact ⟨_, h⟩
  refine ⟨by omega, ?_⟩
  exact ((g.new hp).af hA3).close fun M4 h4 => k _ _ (Int.emod_nonneg _ (by omega)) (Int.emod_lt_of_pos _ (by omega)) h4
theorem L_size (hs : Lv M s (n + 1)) (k : ∀ z M2, 2 ≤ z → z ≤ 10000 → Af M s n M2 → R (.int z) M2) : sp__law_size q RX [.ref s] M R := by
  rw [un__law_size]
  simp only [mDef, mSeq, mIfS, mVal, mNot, mAnd, mOr, mAndV, mOrV, mNotV, mIf, mOp, mChain, mVar, mC, mTup, mLst, mArgs, mCall, mFn, mDGet, mAsg, mRet, mNext, mRaise, mDrop, mIsi, bindT, setAll, startM, List.map_cons, List.map_nil, List.length_cons, List.length_nil, List.replicate, List.cons_append, List.nil_append, List.getElem?_cons_zero, List.getElem?_cons_succ, List.set_cons_succ, List.set_cons_zero, Nat.zero_add, Nat.reduceAdd, Nat.reduceSub, fII, fIIc, fLt, fLe, fGt, fGe, fSub, fMul, fDiv, fMod, fPow, fAdd_int, fLen, items, if_true, List.reverse_cons, List.reverse_nil, fEq_int, fNe_int, fEq_str, fNe_str, List.length_map, mFor, miEnum, miSeq, miRg1, miRg2, mLc, wipeM, mYes, mIsN, mNotN, mMeth, mNeg, mSl, mPart, mBrk, fI1, fI2]
  intro p hp
  refine L_pick (n := n) updM_same (by simp) (by simp) (hs.new hp) fun w M3 hw hA3 => ?_
  have g := (hs.go.new (o := .lst [.int 10, .int 10000, .int 7, .int 2, .int 100, .int 16, .int 3, .int 255]) hp).af hA3
  simp only [List.mem_cons, List.not_mem_nil, or_false] at hw
  rcases hw with rfl | rfl | rfl | rfl | rfl | rfl | rfl | rfl <;> exact g.close fun M4 h4 => k _ _ (by decide) (by decide) h4
theorem L_votesG (hs : Lv M s (n + 11)) (k : ∀ vs M2, votesFit vs = true → Af M s n M2 → R (isW vs) M2) : sp__law_votes q RX [.ref s] M R := by
  rw [un__law_votes]
  simp only [mDef, mSeq, mIfS, mVal, mNot, mAnd, mOr, mAndV, mOrV, mNotV, mIf, mOp, mChain, mVar, mC, mTup, mLst, mArgs, mCall, mFn, mDGet, mAsg, mRet, mNext, mRaise, mDrop, mIsi, bindT, setAll, startM, List.map_cons, List.map_nil, List.length_cons, List.length_nil, List.replicate, List.cons_append, List.nil_append, List.getElem?_cons_zero, List.getElem?_cons_succ, List.set_cons_succ, List.set_cons_zero, Nat.zero_add, Nat.reduceAdd, Nat.reduceSub, fII, fIIc, fLt, fLe, fGt, fGe, fSub, fMul, fDiv, fMod, fPow, fAdd_int, fLen, items, if_true, List.reverse_cons, List.reverse_nil, fEq_int, fNe_int, fEq_str, fNe_str, List.length_map, mFor, miEnum, miSeq, miRg1, miRg2, mLc, wipeM, mYes, mIsN, mNotN, mMeth, mNeg, mSl, mPart, mBrk, fI1, fI2]
  intro p0 hp0
  refine L_pick (n := n + 10) updM_same (by simp) (by simp) (hs.new hp0) fun w M2 hw hA => ?_
  have g := (hs.go.new hp0).af hA
  obtain ⟨h, rfl, h1, h5⟩ : ∃ h : Nat, w = .int (h : Nat) ∧ 1 ≤ h ∧ h ≤ 5 := by
    simp only [List.mem_cons, List.not_mem_nil, or_false] at hw
    rcases hw with rfl | rfl | rfl | rfl | rfl | rfl | rfl
    · exact ⟨3, rfl, by decide, by decide⟩
    · exact ⟨2, rfl, by decide, by decide⟩
    · exact ⟨3, rfl, by decide, by decide⟩
    · exact ⟨1, rfl, by decide, by decide⟩
    · exact ⟨5, rfl, by decide, by decide⟩
    · exact ⟨4, rfl, by decide, by decide⟩
    · exact ⟨2, rfl, by decide, by decide⟩
  intro p hp
  obtain ⟨pM, ps⟩ := g.free hp
  simp only [mDef, mSeq, mIfS, mVal, mNot, mAnd, mOr, mAndV, mOrV, mNotV, mIf, mOp, mChain, mVar, mC, mTup, mLst, mArgs, mCall, mFn, mDGet, mAsg, mRet, mNext, mRaise, mDrop, mIsi, bindT, setAll, startM, List.map_cons, List.map_nil, List.length_cons, List.length_nil, List.replicate, List.cons_append, List.nil_append, List.getElem?_cons_zero, List.getElem?_cons_succ, List.set_cons_succ, List.set_cons_zero, Nat.zero_add, Nat.reduceAdd, Nat.reduceSub, fII, fIIc, fLt, fLe, fGt, fGe, fSub, fMul, fDiv, fMod, fPow, fAdd_int, fLen, items, if_true, List.reverse_cons, List.reverse_nil, fEq_int, fNe_int, fEq_str, fNe_str, List.length_map, mFor, miEnum, miSeq, miRg1, miRg2, mLc, wipeM, mYes, mIsN, mNotN, mMeth, mNeg, mSl, mPart, mBrk, fI1, fI2]
  refine ⟨⟨by decide, by decide, by omega, by omega⟩, ?_⟩
  refine forL_ind (fun i e M' => ∃ vs : List Int, Go M s (n + 10 - 2 * i) M' ∧ M' p = some (.lst (vs.map W.int)) ∧ vs.length = i ∧ vok 1 vs = true ∧ ∃ a b, e = [some (.ref s), a, some (.int (h : Nat)), some (.ref p), b]) _ 0 _ _ ⟨[], g.new hp, updM_same, rfl, rfl, none, none, rfl⟩ ?_ ?_
  · rintro i w e M' kk hw ⟨vs, g, h2, h3, h4, a, b, rfl⟩ hk
    unfold rgW at hw
    obtain ⟨i2, hi2, rfl⟩ := map_inv hw
    have hi := (List.getElem?_eq_some_iff.mp hi2).1
    rw [List.length_range] at hi
    rw [List.getElem?_range hi] at hi2
    cases hi2
    rw [Nat.zero_add] at g h3 hk
    have hi : i < h := by omega
    refine ⟨trivial, _, rfl, ?_⟩
    simp only [mDef, mSeq, mIfS, mVal, mNot, mAnd, mOr, mAndV, mOrV, mNotV, mIf, mOp, mChain, mVar, mC, mTup, mLst, mArgs, mCall, mFn, mDGet, mAsg, mRet, mNext, mRaise, mDrop, mIsi, bindT, setAll, startM, List.map_cons, List.map_nil, List.length_cons, List.length_nil, List.replicate, List.cons_append, List.nil_append, List.getElem?_cons_zero, List.getElem?_cons_succ, List.set_cons_succ, List.set_cons_zero, Nat.zero_add, Nat.reduceAdd, Nat.reduceSub, fII, fIIc, fLt, fLe, fGt, fGe, fSub, fMul, fDiv, fMod, fPow, fAdd_int, fLen, items, if_true, List.reverse_cons, List.reverse_nil, fEq_int, fNe_int, fEq_str, fNe_str, List.length_map, mFor, miEnum, miSeq, miRg1, miRg2, mLc, wipeM, mYes, mIsN, mNotN, mMeth, mNeg, mSl, mPart, mBrk, fI1, fI2]
    refine ⟨⟨by decide, by decide⟩, by simp only [lstAt, h2]; rfl, ⟨by decide, by decide⟩, ?_⟩
    have b2 : (1 + (i : Int)) - (1 + (i : Int)) / 2 > 0 := by omega
    refine L_draw (n := n + 10 - 2 * i - 1) (g.mono (by omega)).lv (by omega) (by omega) fun z M3 z0 z1 hA3 => ?_
    have g3 := g.af hA3
    intro r hr
    refine L_pick (n := n + 10 - 2 * (i + 1)) updM_same (by simp) (by simp) ((g3.mono (by omega)).new hr).lv fun w M4 hw hA4 => ?_
    have g4 := (g3.new hr).af hA4
    obtain ⟨v, rfl, v1, v2⟩ : ∃ v : Int, w = .int v ∧ 1 + (i : Int) < 2 * v ∧ 2 * v ≤ 2 * (1 + (i : Int)) := by
      simp only [List.mem_cons, List.not_mem_nil, or_false] at hw
      rcases hw with rfl | rfl | rfl
      · exact ⟨_, rfl, by omega, by omega⟩
      · exact ⟨_, rfl, by omega, by omega⟩
      · exact ⟨_, rfl, by omega, by omega⟩
    have pr : p ≠ r := ne_of_noneM (by rw [hA3.ne ps]; exact h2) hr
    have h5' : M4 p = some (.lst (vs.map W.int)) := by rw [hA4.ne ps, updM_ne pr, hA3.ne ps]; exact h2
    refine app_ok h5' (by rw [List.length_map]; omega) (hk _ _ ⟨vs ++ [v], g4.set pM ps, ?_, by simp [h3], vok_snoc h4 (by omega) (by omega), _, _, rfl⟩)
    rw [updM_same, List.map_append]
    rfl
  · rintro e M' ⟨vs, g, h2, h3, h4, a, b, rfl⟩
    have ll : (rgW 1 (((h : Nat) : Int) + 1)).length = h := by unfold rgW; rw [List.length_map, List.length_range]; omega
    rw [ll, Nat.zero_add] at h3 g
    refine ⟨trivial, ?_⟩
    simp only [mDef, mSeq, mIfS, mVal, mNot, mAnd, mOr, mAndV, mOrV, mNotV, mIf, mOp, mChain, mVar, mC, mTup, mLst, mArgs, mCall, mFn, mDGet, mAsg, mRet, mNext, mRaise, mDrop, mIsi, bindT, setAll, startM, List.map_cons, List.map_nil, List.length_cons, List.length_nil, List.replicate, List.cons_append, List.nil_append, List.getElem?_cons_zero, List.getElem?_cons_succ, List.set_cons_succ, List.set_cons_zero, Nat.zero_add, Nat.reduceAdd, Nat.reduceSub, fII, fIIc, fLt, fLe, fGt, fGe, fSub, fMul, fDiv, fMod, fPow, fAdd_int, fLen, items, if_true, List.reverse_cons, List.reverse_nil, fEq_int, fNe_int, fEq_str, fNe_str, List.length_map, mFor, miEnum, miSeq, miRg1, miRg2, mLc, wipeM, mYes, mIsN, mNotN, mMeth, mNeg, mSl, mPart, mBrk, fI1, fI2]
    refine fTuple_of (xs := vs.map W.int) (by simp only [items, h2]) ?_
    refine (g.mono (m := n) (by omega)).close fun M4 h4' => k vs M4 ?_ h4'
    unfold votesFit
    rw [decide_eq_true (by omega), decide_eq_true (by omega), h4]
    rfl
theorem L_two_words (k : ∀ p, M p = none → R (.ref p) (updM M p (.lst [.str "plus", .str "minus", .str "times", .str "rest", .str "less", .str "same", .str "plus", .str "minus"]))) : sp__law_two_words q RX [] M R := by
  rw [un__law_two_words]
  simp only [mDef, mSeq, mIfS, mVal, mNot, mAnd, mOr, mAndV, mOrV, mNotV, mIf, mOp, mChain, mVar, mC, mTup, mLst, mArgs, mCall, mFn, mDGet, mAsg, mRet, mNext, mRaise, mDrop, mIsi, bindT, setAll, startM, List.map_cons, List.map_nil, List.length_cons, List.length_nil, List.replicate, List.cons_append, List.nil_append, List.getElem?_cons_zero, List.getElem?_cons_succ, List.set_cons_succ, List.set_cons_zero, Nat.zero_add, Nat.reduceAdd, Nat.reduceSub, fII, fIIc, fLt, fLe, fGt, fGe, fSub, fMul, fDiv, fMod, fPow, fAdd_int, fLen, items, if_true, List.reverse_cons, List.reverse_nil, fEq_int, fNe_int, fEq_str, fNe_str, List.length_map, mFor, miEnum, miSeq, miRg1, miRg2, mLc, wipeM, mYes, mIsN, mNotN, mMeth, mNeg, mSl, mPart, mBrk, fI1, fI2]
  exact fun p hp => fg_of (k p hp)
theorem L_plain_step {z bk : Int} (hz : 2 ≤ z ∧ z ≤ 10000) (hb : 0 ≤ bk ∧ bk ≤ 600) (hs : Lv M s (n + 7)) (k : ∀ (i : Ins) M2, i.fit z bk = true → Af M s n M2 → R (.tup i.ws) M2) : sp__law_plain_step q RX [.ref s, .int z, .int bk] M R := by
  rw [un__law_plain_step]
  simp only [mDef, mSeq, mIfS, mVal, mNot, mAnd, mOr, mAndV, mOrV, mNotV, mIf, mOp, mChain, mVar, mC, mTup, mLst, mArgs, mCall, mFn, mDGet, mAsg, mRet, mNext, mRaise, mDrop, mIsi, bindT, setAll, startM, List.map_cons, List.map_nil, List.length_cons, List.length_nil, List.replicate, List.cons_append, List.nil_append, List.getElem?_cons_zero, List.getElem?_cons_succ, List.set_cons_succ, List.set_cons_zero, Nat.zero_add, Nat.reduceAdd, Nat.reduceSub, fII, fIIc, fLt, fLe, fGt, fGe, fSub, fMul, fDiv, fMod, fPow, fAdd_int, fLen, items, if_true, List.reverse_cons, List.reverse_nil, fEq_int, fNe_int, fEq_str, fNe_str, List.length_map, mFor, miEnum, miSeq, miRg1, miRg2, mLc, wipeM, mYes, mIsN, mNotN, mMeth, mNeg, mSl, mPart, mBrk, fI1, fI2]
  refine L_draw (n := n + 6) hs (by decide) (by decide) fun way M2 w0 w1 hA => ?_
  have g := hs.go.af hA
  refine L_draw (n := n + 5) g.lv (by decide) (by decide) fun b M3 b0 b1 hA => ?_
  have g := g.af hA
  refine L_draw (n := n + 4) g.lv (by decide) (by decide) fun c M4 c0 c1 hA => ?_
  have g := g.af hA
  refine L_draw (n := n + 3) g.lv (by decide) (by decide) fun d M5 d0 d1 hA => ?_
  have g := g.af hA
  have rgb : ∀ i : Int, 0 ≤ i → i < 4 → rg i = true := fun i a b => by
    unfold rg
    rw [decide_eq_true (by omega), decide_eq_true (by omega)]; rfl
  have btk : ∀ lo i hi : Int, lo ≤ i → i ≤ hi → bt lo i hi = true := fun lo i hi a b => by
    unfold bt
    rw [decide_eq_true a, decide_eq_true b]; rfl
  have setG : sp__law_number q (fgX RX) [.ref s, .int z] M5 fun w M1 => fg R (.tup [.str "set", .int b, w]) M1 := by
    refine L_number hz (n := n) (g.mono (by omega)).lv fun i M6 i0 i1 hA => ?_
    exact (g.af hA).close fun M7 h7 => k (.set b i) M7 (by show (rg b && bt 0 i (z - 1)) = true; rw [rgb b b0 b1, btk 0 i (z - 1) i0 (by omega)]; rfl) h7
  have bankG : 0 < bk → sp__law_draw q (fgX RX) [.ref s, .int bk] M5 fun w M1 => match W.int bk, w with
      | .int i, .int j => sp__law_draw q (fgX RX) [.ref s, .int (i - j)] M1 fun y M2 => fAdd (.int 1) y M2 fun w_1 M1 => ∀ p, M1 p = none → sp__law_pick q (fgX RX) [.ref s, .ref p] (updM M1 p (.lst [.str "get", .str "put"])) fun w_2 M1 => fg R (.tup [w_2, .int b, .int c, w, w_1]) M1
      | _, _ => False := fun hb0 => by
    refine L_draw (n := n + 2) (g.mono (by omega)).lv (by omega) (by omega) fun v M6 v0 v1 hA => ?_
    have g := g.af hA
    refine L_draw (n := n + 1) g.lv (by omega) (by omega) fun u M7 u0 u1 hA => ?_
    have g := g.af hA
    show ∀ p, M7 p = none → _
    intro p hp
    refine L_pick (n := n) updM_same (by simp) (by simp) (g.new hp).lv fun w M8 hw hA => ?_
    have g := (g.new hp).af hA
    have key : ∀ t : Bk, Ins.fit z bk (.bnk t b c v (1 + u)) = true := fun t => by
      show ((rg b && rg c) && (bt 0 v bk && bt 1 (1 + u) (bk - v))) = true
      rw [rgb b b0 b1, rgb c c0 c1, btk 0 v bk v0 (by omega), btk 1 (1 + u) (bk - v) (by omega) (by omega)]
      rfl
    simp only [List.mem_cons, List.not_mem_nil, or_false] at hw
    rcases hw with rfl | rfl
    · exact g.close fun M9 h9 => k (.bnk .get b c v (1 + u)) M9 (key .get) h9
    · exact g.close fun M9 h9 => k (.bnk .put b c v (1 + u)) M9 (key .put) h9
  have twoG : sp__law_two_words q (fgX RX) [] M5 fun w M1 => sp__law_pick q (fgX RX) [.ref s, w] M1 fun w M1 => fg R (.tup [w, .int b, .int c, .int d]) M1 := by
    refine L_two_words fun p hp => ?_
    refine L_pick (n := n) updM_same (by simp) (by simp) ((g.mono (by omega)).new hp).lv fun w M8 hw hA => ?_
    have g := (g.new hp).af hA
    have key : ∀ t : Two, Ins.fit z bk (.two t b c d) = true := fun t => by
      show (rg b && (rg c && rg d)) = true
      rw [rgb b b0 b1, rgb c c0 c1, rgb d d0 d1]
      rfl
    simp only [List.mem_cons, List.not_mem_nil, or_false] at hw
    rcases hw with rfl | rfl | rfl | rfl | rfl | rfl | rfl | rfl
    · exact g.close fun M9 h9 => k (.two .plus b c d) M9 (key _) h9
    · exact g.close fun M9 h9 => k (.two .minus b c d) M9 (key _) h9
    · exact g.close fun M9 h9 => k (.two .times b c d) M9 (key _) h9
    · exact g.close fun M9 h9 => k (.two .rest b c d) M9 (key _) h9
    · exact g.close fun M9 h9 => k (.two .less b c d) M9 (key _) h9
    · exact g.close fun M9 h9 => k (.two .same b c d) M9 (key _) h9
    · exact g.close fun M9 h9 => k (.two .plus b c d) M9 (key _) h9
    · exact g.close fun M9 h9 => k (.two .minus b c d) M9 (key _) h9
  by_cases hw0 : way = 0
  · exact iteY (decide_eq_true hw0) setG
  · refine iteN (by rw [decide_eq_true_eq]; exact hw0) ?_
    by_cases hb0 : bk = 0
    · refine iteY (decide_eq_true hb0) ?_
      by_cases h3 : 3 < way
      · exact iteY (decide_eq_true h3) setG
      · exact iteN (by rw [decide_eq_true_eq]; exact h3) (iteN (by rw [decide_eq_true_eq]; exact h3) twoG)
    · refine iteN (by rw [decide_eq_true_eq]; exact hb0) (iteN (by decide) ?_)
      by_cases h3 : 3 < way
      · exact iteY (decide_eq_true h3) (bankG (by omega))
      · exact iteN (by rw [decide_eq_true_eq]; exact h3) twoG
theorem L_mk_cell {hu z bk mn : Int} (hh : 1 ≤ hu ∧ hu ≤ 5) (hz : 2 ≤ z ∧ z ≤ 10000) (hb : 0 ≤ bk ∧ bk ≤ 600) (hm : 1 ≤ mn ∧ mn ≤ 4000) (hs : Lv M s (n + 9)) (k : ∀ (x : Cell) M2, x.fit hu z mn bk = true → Af M s n M2 → R x.w M2) : sp__law_mk_cell q RX [.ref s, .int hu, .int z, .int bk, .int mn] M R := by
  have rgb : ∀ i : Int, 0 ≤ i → i < 4 → rg i = true := fun i a b => by
    unfold rg
    rw [decide_eq_true (by omega), decide_eq_true (by omega)]; rfl
  have btk : ∀ lo i hi : Int, lo ≤ i → i ≤ hi → bt lo i hi = true := fun lo i hi a b => by
    unfold bt
    rw [decide_eq_true a, decide_eq_true b]; rfl
  rw [un__law_mk_cell]
  simp only [mDef, mSeq, mIfS, mVal, mNot, mAnd, mOr, mAndV, mOrV, mNotV, mIf, mOp, mChain, mVar, mC, mTup, mLst, mArgs, mCall, mFn, mDGet, mAsg, mRet, mNext, mRaise, mDrop, mIsi, bindT, setAll, startM, List.map_cons, List.map_nil, List.length_cons, List.length_nil, List.replicate, List.cons_append, List.nil_append, List.getElem?_cons_zero, List.getElem?_cons_succ, List.set_cons_succ, List.set_cons_zero, Nat.zero_add, Nat.reduceAdd, Nat.reduceSub, fII, fIIc, fLt, fLe, fGt, fGe, fSub, fMul, fDiv, fMod, fPow, fAdd_int, fLen, items, if_true, List.reverse_cons, List.reverse_nil, fEq_int, fNe_int, fEq_str, fNe_str, List.length_map, mFor, miEnum, miSeq, miRg1, miRg2, mLc, wipeM, mYes, mIsN, mNotN, mMeth, mNeg, mSl, mPart, mBrk, fI1, fI2]
  refine L_draw (n := n + 8) hs (by decide) (by decide) fun way M2 w0 w1 hA => ?_
  have g := hs.go.af hA
  by_cases h5 : way < 5
  · refine iteY (decide_eq_true h5) ?_
    refine L_draw (n := n + 7) g.lv (by omega) (by omega) fun h M3 h0 h1 hA => ?_
    have g := g.af hA
    refine L_plain_step hz hb (n := n) g.lv fun i M4 hi hA => ?_
    have g := g.af hA
    refine cat_tup (by cases i <;> simp [Ins.ws]) ?_
    exact g.close fun M9 h9 => k (.ins h i) M9 (by show (bt 0 h (hu - 1) && i.fit z bk) = true; rw [btk 0 h (hu - 1) h0 (by omega), hi]; rfl) h9
  refine iteN (by rw [decide_eq_true_eq]; exact h5) ?_
  by_cases h8 : way < 8
  · refine iteY (decide_eq_true h8) ?_
    refine L_draw (n := n + 7) g.lv (by omega) (by omega) fun h M3 h0 h1 hA => ?_
    have g := g.af hA
    refine L_draw (n := n + 6) g.lv (by decide) (by decide) fun r M4 r0 r1 hA => ?_
    have g := g.af hA
    exact (g.mono (m := n) (by omega)).close fun M9 h9 => k (.ins h (.off r)) M9 (by show (bt 0 h (hu - 1) && rg r) = true; rw [btk 0 h (hu - 1) h0 (by omega), rgb r r0 r1]; rfl) h9
  refine iteN (by rw [decide_eq_true_eq]; exact h8) ?_
  refine L_draw (n := n + 7) g.lv (by omega) (by omega) fun wd M3 d0 d1 hA => ?_
  have g := g.af hA
  show (if decide (way = 8) = true then _ else _)
  have bw : bt 1 (1 + wd) hu = true := btk 1 (1 + wd) hu (by omega) (by omega)
  by_cases e8 : way = 8
  · refine iteY (decide_eq_true e8) ?_
    intro p hp
    refine L_pick (n := n + 6) updM_same (by simp) (by simp) (g.new hp).lv fun w M8 hw hA => ?_
    have g := (g.new hp).af hA
    have m0 : 0 < (if 6 < mn then 6 else mn) := by split <;> omega
    have m1 : (if 6 < mn then 6 else mn) ≤ 6 ∧ (if 6 < mn then 6 else mn) ≤ mn := by split <;> omega
    refine L_draw (n := n + 5) g.lv m0 (by omega) fun a M9 a0 a1 hA => ?_
    have g := (g.af hA).mono (m := n) (by omega)
    simp only [List.mem_cons, List.not_mem_nil, or_false] at hw
    rcases hw with rfl | rfl
    · exact g.close fun M9 h9 => k (.thr .sho a (1 + wd)) M9 (by show (bt 1 (1 + wd) hu && bt 0 a 5) = true; rw [bw, btk 0 a 5 a0 (by omega)]; rfl) h9
    · exact g.close fun M9 h9 => k (.thr .tur a (1 + wd)) M9 (by show (bt 1 (1 + wd) hu && bt 0 a (mn - 1)) = true; rw [bw, btk 0 a (mn - 1) a0 (by omega)]; rfl) h9
  refine iteN (by rw [decide_eq_true_eq]; exact e8) ?_
  by_cases e9 : way = 9
  · refine iteY (decide_eq_true e9) ?_
    refine L_draw (n := n + 6) g.lv (by decide) (by decide) fun a M9 a0 a1 hA => ?_
    have g := (g.af hA).mono (m := n) (by omega)
    exact g.close fun M9 h9 => k (.thr .tak a (1 + wd)) M9 (by show (bt 1 (1 + wd) hu && bt 0 a 7) = true; rw [bw, btk 0 a 7 a0 (by omega)]; rfl) h9
  refine iteN (by rw [decide_eq_true_eq]; exact e9) ?_
  refine L_draw (n := n + 6) g.lv (by omega) (by omega) fun a M9 a0 a1 hA => ?_
  have g := g.af hA
  intro p hp
  refine L_pick (n := n) updM_same (by simp) (by simp) ((g.mono (by omega)).new hp).lv fun w M8 hw hA => ?_
  have g := (g.new hp).af hA
  simp only [List.mem_cons, List.not_mem_nil, or_false] at hw
  rcases hw with rfl | rfl | rfl | rfl
  · exact g.close fun M9 h9 => k (.one .mark) M9 rfl h9
  · exact g.close fun M9 h9 => k (.one .stop) M9 rfl h9
  · exact g.close fun M9 h9 => k (.goto a) M9 (btk 0 a (mn - 1) a0 (by omega)) h9
  · exact g.close fun M9 h9 => k (.thr .sho 0 1) M9 (by show (bt 1 1 hu && bt 0 0 5) = true; rw [btk 1 1 hu (by decide) (by omega)]; rfl) h9
end
end K75


set_option Elab.async false
set_option linter.all false
set_option maxRecDepth 100000
set_option maxHeartbeats 8000000
namespace K75
open PySem PySem.Spec PyProof.Rows L2 ML
/-! # codes of any cells -/
structure Gc (c : Code) : Prop where
  fit : c.fit = true
  len : c.cells.length ≤ 200
  st : (c.cells.filter Cell.isS).length ≤ 20
theorem Gc.cd {c : Code} (h : Gc c) : Cd c := ⟨h.fit, by have := h.len; omega, by have := h.st; omega⟩
theorem fit_mk {votes : List Int} {z : Int} {cs : List Cell} {bk : List Int} (hv : votesFit votes = true) (hz : 2 ≤ z ∧ z ≤ 10000) (hb : bk.length ≤ 600) (hbk : ∀ i ∈ bk, 0 ≤ i ∧ i < z) (h0 : 1 ≤ cs.length) (hl : cs.length ≤ 200)
    (hc : ∀ x ∈ cs, x.fit votes.length z cs.length bk.length = true) : (Code.mk votes z cs bk).fit = true := by
  unfold Code.fit
  simp only [Bool.and_eq_true, decide_eq_true_eq, List.all_eq_true]
  refine ⟨hv, ?_, by omega, fun i hi => ?_, by show (1 : Int) ≤ cs.length; omega, by show (cs.length : Int) ≤ 4000; omega, fun x hx => hc x hx⟩
  · unfold bt
    rw [decide_eq_true hz.1, decide_eq_true hz.2]; rfl
  · have := hbk i hi
    unfold bt
    rw [decide_eq_true (by omega), decide_eq_true (by omega)]; rfl
section
variable {q : Ads} {RX : MX} {M : Mh} {R : MK} {s : Addr} {n : Nat}
theorem rg_at {b : Nat} {i : Nat} {w : W} (h : (rgW 0 (b : Nat))[i]? = some w) : i < b ∧ w = .int (i : Nat) := by
  unfold rgW at h
  obtain ⟨j, hj, rfl⟩ := map_inv h
  have hi := (List.getElem?_eq_some_iff.mp hj).1
  rw [List.length_range] at hi
  rw [List.getElem?_range hi] at hj
  cases hj
  refine ⟨by omega, by rw [Int.zero_add]⟩
theorem rg_len {b : Nat} : (rgW 0 (b : Nat)).length = b := by unfold rgW; rw [List.length_map, List.length_range]; omega
/-- a list of drawn numbers -/
theorem L_numbers {z : Int} {b : Nat} {e0 : MEnv} {x0 x1 : Nat} {F : List W → Mh → Prop} {G : Mh → Prop} {M0 : Mh} {tg : Nat} (hz : 2 ≤ z ∧ z ≤ 10000) (g0 : Go M0 s (n + 2 * b) M) (hG : ∀ M', (∀ a o, a ≠ s → M a = some o → M' a = some o) → G M')
    (he : ∀ w, (e0.set tg (some w))[x0]? = some (some (.ref s)) ∧ (e0.set tg (some w))[x1]? = some (some (.int z)))
    (k : ∀ (is : List Int) M2, is.length = b → (∀ i ∈ is, 0 ≤ i ∧ i < z) → Go M0 s n M2 → (∀ a o, a ≠ s → M a = some o → M2 a = some o) → F (is.map W.int) M2) :
    lcL G (.nm tg) mYes (mCall (sp__law_number q) [mVar x0, mVar x1]) e0 F (rgW 0 (b : Nat)) [] M := by
  refine lcL_ind (fun i acc M' => ∃ is : List Int, acc = is.map W.int ∧ is.length = i ∧ (∀ i ∈ is, 0 ≤ i ∧ i < z) ∧ Go M0 s (n + 2 * (b - i)) M' ∧ ∀ a o, a ≠ s → M a = some o → M' a = some o) _ 0 _ _ ⟨[], rfl, rfl, by simp, g0, fun _ _ _ h => h⟩ ?_ ?_
  · rintro i w acc M' kk hw ⟨is, rfl, h1, h2, g, hm⟩ hk
    obtain ⟨hi, rfl⟩ := rg_at hw
    rw [Nat.zero_add] at h1 g hk
    refine ⟨hG M' hm, _, rfl, ?_⟩
    obtain ⟨a1, a2⟩ := he (.int (i : Nat))
    simp only [mYes, if_true, mCall, mArgs, mVar, a1, a2]
    refine L_number hz (n := n + 2 * (b - (i + 1))) (g.mono (by omega)).lv fun v M2 v0 v1 hA => ?_
    refine hk _ _ ⟨is ++ [v], by rw [List.map_append]; rfl, by simp [h1], fun j hj => ?_, g.af hA, fun a o ha h => by rw [hA.ne ha]; exact hm a o ha h⟩
    rcases List.mem_append.mp hj with h | h
    · exact h2 j h
    · rw [List.mem_singleton] at h
      subst h
      exact ⟨v0, v1⟩
  · rintro acc M' ⟨is, rfl, h1, h2, g, hm⟩
    rw [Nat.zero_add, rg_len] at h1 g
    exact ⟨hG M' hm, k is M' h1 h2 (g.mono (by omega)) hm⟩
theorem L_mk_any (hs : Lv M s (n + 206)) (k : ∀ c M2, Gc c → Af M s n M2 → R c.w M2) : sp__law_mk_any_code q RX [.ref s] M R := by
  rw [un__law_mk_any_code]
  simp only [mDef, mSeq, mIfS, mVal, mNot, mAnd, mOr, mAndV, mOrV, mNotV, mIf, mOp, mChain, mVar, mC, mTup, mLst, mArgs, mCall, mFn, mDGet, mAsg, mRet, mNext, mRaise, mDrop, mIsi, bindT, setAll, startM, List.map_cons, List.map_nil, List.length_cons, List.length_nil, List.replicate, List.cons_append, List.nil_append, List.getElem?_cons_zero, List.getElem?_cons_succ, List.set_cons_succ, List.set_cons_zero, Nat.zero_add, Nat.reduceAdd, Nat.reduceSub, fII, fIIc, fLt, fLe, fGt, fGe, fSub, fMul, fDiv, fMod, fPow, fAdd_int, fLen, items, if_true, List.reverse_cons, List.reverse_nil, fEq_int, fNe_int, fEq_str, fNe_str, List.length_map, mFor, miEnum, miSeq, miRg1, miRg2, mLc, wipeM, mYes, mIsN, mNotN, mMeth, mNeg, mSl, mPart, mBrk, fI1, fI2]
  refine L_votesG (n := n + 195) hs fun vs M2 hv hA => ?_
  have g := hs.go.af hA
  refine L_size (n := n + 194) g.lv fun z M3 z0 z1 hA => ?_
  have g := g.af hA
  intro p1 hp1
  refine L_pick (n := n + 193) updM_same (by simp) (by simp) (g.new hp1).lv fun w M4 hw hA => ?_
  have g := (g.new hp1).af hA
  obtain ⟨bk, rfl, b6⟩ : ∃ b : Nat, w = .int (b : Nat) ∧ b ≤ 6 := by
    simp only [List.mem_cons, List.not_mem_nil, or_false] at hw
    rcases hw with rfl | rfl | rfl | rfl
    · exact ⟨3, rfl, by decide⟩
    · exact ⟨0, rfl, by decide⟩
    · exact ⟨1, rfl, by decide⟩
    · exact ⟨6, rfl, by decide⟩
  intro p2 hp2
  refine L_pick (n := n + 192) updM_same (by simp) (by simp) (g.new hp2).lv fun w M5 hw hA => ?_
  have g := (g.new hp2).af hA
  obtain ⟨mn, rfl, m1, m20⟩ : ∃ b : Nat, w = .int (b : Nat) ∧ 1 ≤ b ∧ b ≤ 20 := by
    simp only [List.mem_cons, List.not_mem_nil, or_false] at hw
    rcases hw with rfl | rfl | rfl | rfl | rfl
    · exact ⟨9, rfl, by decide, by decide⟩
    · exact ⟨4, rfl, by decide, by decide⟩
    · exact ⟨14, rfl, by decide, by decide⟩
    · exact ⟨1, rfl, by decide, by decide⟩
    · exact ⟨20, rfl, by decide, by decide⟩
  have vl := votesFit_len hv
  simp only [mDef, mSeq, mIfS, mVal, mNot, mAnd, mOr, mAndV, mOrV, mNotV, mIf, mOp, mChain, mVar, mC, mTup, mLst, mArgs, mCall, mFn, mDGet, mAsg, mRet, mNext, mRaise, mDrop, mIsi, bindT, setAll, startM, List.map_cons, List.map_nil, List.length_cons, List.length_nil, List.replicate, List.cons_append, List.nil_append, List.getElem?_cons_zero, List.getElem?_cons_succ, List.set_cons_succ, List.set_cons_zero, Nat.zero_add, Nat.reduceAdd, Nat.reduceSub, fII, fIIc, fLt, fLe, fGt, fGe, fSub, fMul, fDiv, fMod, fPow, fAdd_int, fLen, items, if_true, List.reverse_cons, List.reverse_nil, fEq_int, fNe_int, fEq_str, fNe_str, List.length_map, mFor, miEnum, miSeq, miRg1, miRg2, mLc, wipeM, mYes, mIsN, mNotN, mMeth, mNeg, mSl, mPart, mBrk, fI1, fI2]
  refine ⟨⟨by omega, by omega⟩, by rw [rg_len, sizeLine_eq]; omega, ?_⟩
  refine lcL_ind (fun i acc M' => ∃ cs : List Cell, acc = cs.map Cell.w ∧ cs.length = i ∧ (∀ x ∈ cs, x.fit vs.length z mn bk = true) ∧ Go M s (n + 12 + 9 * (20 - i)) M') _ 0 _ _ ⟨[], rfl, rfl, by simp, g⟩ ?_ ?_
  · rintro i w acc M' kk hw ⟨cs, rfl, h1, h2, g⟩ hk
    obtain ⟨hi, rfl⟩ := rg_at hw
    rw [Nat.zero_add] at h1 hk g
    refine ⟨trivial, _, rfl, ?_⟩
    simp only [mDef, mSeq, mIfS, mVal, mNot, mAnd, mOr, mAndV, mOrV, mNotV, mIf, mOp, mChain, mVar, mC, mTup, mLst, mArgs, mCall, mFn, mDGet, mAsg, mRet, mNext, mRaise, mDrop, mIsi, bindT, setAll, startM, List.map_cons, List.map_nil, List.length_cons, List.length_nil, List.replicate, List.cons_append, List.nil_append, List.getElem?_cons_zero, List.getElem?_cons_succ, List.set_cons_succ, List.set_cons_zero, Nat.zero_add, Nat.reduceAdd, Nat.reduceSub, fII, fIIc, fLt, fLe, fGt, fGe, fSub, fMul, fDiv, fMod, fPow, fAdd_int, fLen, items, if_true, List.reverse_cons, List.reverse_nil, fEq_int, fNe_int, fEq_str, fNe_str, List.length_map, mFor, miEnum, miSeq, miRg1, miRg2, mLc, wipeM, mYes, mIsN, mNotN, mMeth, mNeg, mSl, mPart, mBrk, fI1, fI2, items_is]
    refine L_mk_cell (n := n + 12 + 9 * (20 - (i + 1))) (by rw [List.length_map]; omega) ⟨z0, z1⟩ (by omega) (by omega) (g.mono (by omega)).lv fun x M6 hx hA => ?_
    rw [List.length_map] at hx
    refine hk _ _ ⟨cs ++ [x], by rw [List.map_append]; rfl, by simp [h1], fun y hy => ?_, g.af hA⟩
    rcases List.mem_append.mp hy with h | h
    · exact h2 y h
    · rw [List.mem_singleton] at h
      subst h
      exact hx
  · rintro acc M' ⟨cs, rfl, h1, h2, g⟩
    rw [Nat.zero_add, rg_len] at h1
    rw [Nat.zero_add, rg_len] at g
    refine ⟨trivial, fun p hp => ?_⟩
    obtain ⟨pM, ps⟩ := g.free hp
    refine fTuple_of (xs := cs.map Cell.w) (by simp only [items, updM_same]) ?_
    refine ⟨⟨by omega, by omega⟩, by rw [rg_len, sizeLine_eq]; omega, ?_⟩
    refine L_numbers (M0 := M) (n := n) ⟨z0, z1⟩ ((g.new hp).mono (by omega)) (fun _ _ => trivial) (fun w => ⟨rfl, rfl⟩) fun is M7 l1 l2 g7 hm => ?_
    intro p3 hp3
    refine fTuple_of (xs := is.map W.int) (by simp only [items, updM_same]) ?_
    refine (g7.new hp3).close fun M8 h8 => ?_
    refine k ⟨vs, z, cs, is⟩ M8 ⟨fit_mk hv ⟨z0, z1⟩ (by omega) l2 (by omega) (by omega) ?_, by show cs.length ≤ 200; omega, ?_⟩ h8
    · rw [h1, l1]
      exact h2
    · have := List.length_filter_le Cell.isS cs
      show (cs.filter Cell.isS).length ≤ 20
      omega
theorem L_mk_bent {c : Code} (hc : Gc c) (hs19 : (c.cells.filter Cell.isS).length ≤ 19) (hs : Lv M s (n + 10)) (k : ∀ c M2, Gc c → Af M s n M2 → R c.w M2) : sp__law_mk_bent q RX [.ref s, c.w] M R := by
  have hcd := hc.cd
  have hl := hc.len
  have hp0 := hcd.pos
  have hb := hcd.bank
  obtain ⟨hv, hz, _, hbk, _, hf⟩ := hcd.parts
  have vl := votesFit_len hv
  have hz : 2 ≤ c.size ∧ c.size ≤ 10000 := by
    unfold bt at hz
    simp only [Bool.and_eq_true, decide_eq_true_eq] at hz
    exact hz
  have lm : (c.cells.map Cell.w).length = c.cells.length := List.length_map _
  rw [un__law_mk_bent]
  simp only [mDef, mSeq, mIfS, mVal, mNot, mAnd, mOr, mAndV, mOrV, mNotV, mIf, mOp, mChain, mVar, mC, mTup, mLst, mArgs, mCall, mFn, mDGet, mAsg, mRet, mNext, mRaise, mDrop, mIsi, bindT, setAll, startM, List.map_cons, List.map_nil, List.length_cons, List.length_nil, List.replicate, List.cons_append, List.nil_append, List.getElem?_cons_zero, List.getElem?_cons_succ, List.set_cons_succ, List.set_cons_zero, Nat.zero_add, Nat.reduceAdd, Nat.reduceSub, fII, fIIc, fLt, fLe, fGt, fGe, fSub, fMul, fDiv, fMod, fPow, fAdd_int, fLen, items, if_true, List.reverse_cons, List.reverse_nil, fEq_int, fNe_int, fEq_str, fNe_str, List.length_map, mFor, miEnum, miSeq, miRg1, miRg2, mLc, wipeM, mYes, mIsN, mNotN, mMeth, mNeg, mSl, mPart, mBrk, fI1, fI2, fIx_c0, fIx_c1, fIx_c2, fIx_c3, items_cs, items_is]
  simp only [fList, items_cs]
  intro p hp
  have ps := hs.ne hp
  refine L_draw (n := n + 9) (hs.new hp) (by omega) (by omega) fun z M2 z0 z1 hA => ?_
  have g := (hs.go.new (o := .lst (c.cells.map Cell.w)) hp).af hA
  have h2 : M2 p = some (.lst (c.cells.map Cell.w)) := by rw [hA.ne ps, updM_same]
  obtain ⟨a, rfl⟩ : ∃ j : Nat, z = j := ⟨z.toNat, by omega⟩
  simp only [mDef, mSeq, mIfS, mVal, mNot, mAnd, mOr, mAndV, mOrV, mNotV, mIf, mOp, mChain, mVar, mC, mTup, mLst, mArgs, mCall, mFn, mDGet, mAsg, mRet, mNext, mRaise, mDrop, mIsi, bindT, setAll, startM, List.map_cons, List.map_nil, List.length_cons, List.length_nil, List.replicate, List.cons_append, List.nil_append, List.getElem?_cons_zero, List.getElem?_cons_succ, List.set_cons_succ, List.set_cons_zero, Nat.zero_add, Nat.reduceAdd, Nat.reduceSub, fII, fIIc, fLt, fLe, fGt, fGe, fSub, fMul, fDiv, fMod, fPow, fAdd_int, fLen, items, if_true, List.reverse_cons, List.reverse_nil, fEq_int, fNe_int, fEq_str, fNe_str, List.length_map, mFor, miEnum, miSeq, miRg1, miRg2, mLc, wipeM, mYes, mIsN, mNotN, mMeth, mNeg, mSl, mPart, mBrk, fI1, fI2, mPut, h2, fIx_c0, fIx_c1, fIx_c2, fIx_c3, items_is]
  refine L_mk_cell (n := n) (by rw [List.length_map]; omega) hz (by rw [List.length_map]; omega) (by omega) g.lv fun x M3 hx hA => ?_
  have g := g.af hA
  have h3 : M3 p = some (.lst (c.cells.map Cell.w)) := by rw [hA.ne ps]; exact h2
  have ix : ixN (c.cells.map Cell.w).length (a : Int) = some a := by
    unfold ixN
    rw [if_pos (by omega)]
    simp
    omega
  simp only [h3, ix]
  have hset : (c.cells.map Cell.w).set a x.w = (c.cells.set a x).map Cell.w := (List.map_set).symm
  rw [hset]
  refine fTuple_of (xs := (c.cells.set a x).map Cell.w) (by simp only [items, updM_same]) ?_
  refine (g.set hp ps).close fun M8 h8 => k (c.put (c.cells.set a x)) M8 ⟨?_, by show (c.cells.set a x).length ≤ 200; rw [List.length_set]; exact hl, ?_⟩ h8
  · refine put_fit hc.fit (by rw [List.length_set]) fun y hy => ?_
    rcases List.mem_or_eq_of_mem_set hy with h | h
    · exact hf y h
    · subst h
      rw [List.length_map, List.length_map] at hx
      exact hx
  · show ((c.cells.set a x).filter Cell.isS).length ≤ 20
    have : ∀ (l : List Cell) (i : Nat), ((l.set i x).filter Cell.isS).length ≤ (l.filter Cell.isS).length + 1 := by
      intro l
      induction l with
      | nil => intro i; simp
      | cons y l ih =>
        intro i
        cases i with
        | zero =>
          rw [List.set_cons_zero, List.filter_cons, List.filter_cons]
          split <;> split <;> (try rw [List.length_cons]) <;> (try rw [List.length_cons]) <;> omega
        | succ i =>
          rw [List.set_cons_succ, List.filter_cons, List.filter_cons]
          have := ih i
          split <;> simp <;> omega
    have := this c.cells a
    omega
end
end K75


set_option Elab.async false
set_option linter.all false
set_option maxRecDepth 100000
set_option maxHeartbeats 8000000
namespace K75
open PySem PySem.Spec PyProof.Rows L2 ML
/-! # laid -/
structure Lots (M0 M : Mh) (s : Addr) (rs : List Addr) (css : List (List Cell)) : Prop where
  len : rs.length = css.length
  nd : rs.Nodup
  fresh : ∀ r ∈ rs, M0 r = none ∧ r ≠ s
  at' : ∀ (j : Nat) r cs, rs[j]? = some r → css[j]? = some cs → M r = some (.lst (cs.map Cell.w))
theorem Lots.up {M0 M M2 : Mh} {s : Addr} {rs : List Addr} {css : List (List Cell)} (h : Lots M0 M s rs css) (k : ∀ r ∈ rs, ∀ xs, M r = some (.lst xs) → M2 r = some (.lst xs)) : Lots M0 M2 s rs css :=
  ⟨h.len, h.nd, h.fresh, fun j r cs a b => k r (List.mem_of_getElem? a) _ (h.at' j r cs a b)⟩
theorem Lots.mem {M0 M : Mh} {s : Addr} {rs : List Addr} {css : List (List Cell)} (h : Lots M0 M s rs css) {r : Addr} (hr : r ∈ rs) : ∃ (j : Nat) (cs : List Cell), rs[j]? = some r ∧ css[j]? = some cs ∧ M r = some (.lst (cs.map Cell.w)) := by
  obtain ⟨j, hj⟩ := List.getElem?_of_mem hr
  have hl := (List.getElem?_eq_some_iff.mp hj).1
  have hc : css[j]? = some (css[j]'(by rw [← h.len]; exact hl)) := List.getElem?_eq_getElem _
  exact ⟨j, _, hj, hc, h.at' j r _ hj hc⟩
theorem Lots.snoc {M0 M : Mh} {s : Addr} {rs : List Addr} {css : List (List Cell)} {r : Addr} {cs : List Cell} (h : Lots M0 M s rs css) (hr : r ∉ rs) (h0 : M0 r = none) (hs : r ≠ s) (he : M r = some (.lst (cs.map Cell.w))) : Lots M0 M s (rs ++ [r]) (css ++ [cs]) := by
  refine ⟨by simp [h.len], ?_, fun a ha => ?_, fun j a b e1 e2 => ?_⟩
  · rw [List.nodup_append]
    exact ⟨h.nd, by simp, fun a ha b hb => by rw [List.mem_singleton] at hb; subst hb; exact fun z => hr (z ▸ ha)⟩
  · rcases List.mem_append.mp ha with z | z
    · exact h.fresh a z
    · rw [List.mem_singleton] at z
      subst z
      exact ⟨h0, hs⟩
  · rcases Nat.lt_or_ge j rs.length with z | z
    · rw [List.getElem?_append_left z] at e1
      rw [List.getElem?_append_left (by rw [← h.len]; exact z)] at e2
      exact h.at' j a b e1 e2
    · have hj : j = rs.length := by
        have := (List.getElem?_eq_some_iff.mp e1).1
        rw [List.length_append, List.length_singleton] at this
        omega
      subst hj
      rw [List.getElem?_append_right (Nat.le_refl _)] at e1
      rw [h.len, List.getElem?_append_right (Nat.le_refl _)] at e2
      simp at e1 e2
      rw [← e1, ← e2]
      exact he
theorem Lots.set {M0 M : Mh} {s : Addr} {rs : List Addr} {css : List (List Cell)} {j : Nat} {r : Addr} {cs : List Cell} (h : Lots M0 M s rs css) (hr : rs[j]? = some r) : Lots M0 (updM M r (.lst (cs.map Cell.w))) s rs (css.set j cs) := by
  refine ⟨by rw [List.length_set]; exact h.len, h.nd, h.fresh, fun i a b e1 e2 => ?_⟩
  by_cases z : i = j
  · subst z
    rw [hr] at e1
    cases e1
    rw [List.getElem?_set_self (by rw [← h.len]; exact (List.getElem?_eq_some_iff.mp hr).1)] at e2
    cases e2
    exact updM_same
  · rw [List.getElem?_set_ne (fun e => z e.symm)] at e2
    have : a ≠ r := fun e => by
      subst e
      have h1 := List.getElem?_eq_some_iff.mp e1
      have h2 := List.getElem?_eq_some_iff.mp hr
      have pw := List.pairwise_iff_getElem.mp h.nd
      rcases Nat.lt_or_gt_of_ne z with y | y
      · exact pw i j h1.1 h2.1 y (h1.2.trans h2.2.symm)
      · exact pw j i h2.1 h1.1 y (h2.2.trans h1.2.symm)
    rw [updM_ne this]
    exact h.at' i a b e1 e2
def sumL : List (List Cell) → Nat
  | [] => 0
  | cs :: css => cs.length + sumL css
theorem sumL_set : ∀ {css : List (List Cell)} {j : Nat} {x : Cell} {t : List Cell}, css[j]? = some (x :: t) → sumL (css.set j t) + 1 = sumL css
  | [], _, _, _, h => by simp at h
  | cs :: css, 0, x, t, h => by
    simp at h
    subst h
    show t.length + sumL css + 1 = (t.length + 1) + sumL css
    omega
  | cs :: css, j + 1, x, t, h => by
    simp at h
    have := sumL_set h
    show cs.length + sumL (css.set j t) + 1 = cs.length + sumL css
    omega
theorem sumL_le {L : Nat} : ∀ {css : List (List Cell)}, (∀ cs ∈ css, cs.length ≤ L) → sumL css ≤ css.length * L
  | [], _ => Nat.zero_le _
  | cs :: css, h => by
    have h1 := h cs List.mem_cons_self
    have h2 := sumL_le fun c hc => h c (List.mem_cons_of_mem _ hc)
    show cs.length + sumL css ≤ (css.length + 1) * L
    rw [Nat.succ_mul]
    omega
def neR (rs : List Addr) (css : List (List Cell)) : List Addr := ((rs.zip css).filter fun x => !x.2.isEmpty).map Prod.fst
theorem neR_mem {rs : List Addr} {css : List (List Cell)} {r : Addr} (h : r ∈ neR rs css) : ∃ (j : Nat) (x : Cell) (t : List Cell), rs[j]? = some r ∧ css[j]? = some (x :: t) := by
  unfold neR at h
  obtain ⟨⟨a, cs⟩, h1, rfl⟩ := List.mem_map.mp h
  obtain ⟨h2, h3⟩ := List.mem_filter.mp h1
  obtain ⟨j, hj⟩ := List.getElem?_of_mem h2
  rw [List.getElem?_zip_eq_some] at hj
  cases cs with
  | nil => simp at h3
  | cons x t => exact ⟨j, x, t, hj.1, hj.2⟩
theorem dats_refs {M : Mh} : ∀ {js : List Addr}, (∀ r ∈ js, ∃ cs : List Cell, M r = some (.lst (cs.map Cell.w))) → ∃ ds : List PyData, dats M 7 (js.map W.ref) = some ds ∧ ds.length = js.length ∧ ∀ d ∈ ds, ∃ cs : List Cell, d = .list (dWs (cs.map Cell.w))
  | [], _ => ⟨[], by simp [dats], rfl, by simp⟩
  | r :: js, h => by
    obtain ⟨ds, e, hl, hd⟩ := dats_refs fun a ha => h a (List.mem_cons_of_mem _ ha)
    obtain ⟨cs, hc⟩ := h r List.mem_cons_self
    have e1 : dat M 7 (.ref r) = some (.list (dWs (cs.map Cell.w))) := by
      unfold dat
      rw [hc]
      simp only [dats_pl M 6 _ (pls_map cell_pl cs), Option.map_some]
    refine ⟨.list (dWs (cs.map Cell.w)) :: ds, ?_, by simp [hl], fun d hd' => ?_⟩
    · rw [List.map_cons]
      unfold dats
      rw [e1, e]
    · rcases List.mem_cons.mp hd' with z | z
      · exact ⟨cs, z⟩
      · exact hd d z
theorem layAll_of : ∀ {ds : List PyData}, (∀ d ∈ ds, ∃ cs : List Cell, d = .list (dWs (cs.map Cell.w))) → PyData.canLayAll0 ds = true ∧ PyData.depthAll ds ≤ 5
  | [], _ => ⟨rfl, by decide⟩
  | d :: ds, h => by
    obtain ⟨a, b⟩ := layAll_of fun x hx => h x (List.mem_cons_of_mem _ hx)
    obtain ⟨cs, rfl⟩ := h d List.mem_cons_self
    have h1 : PyData.canLay0 (.list (dWs (cs.map Cell.w))) = true := lays_pl _ (pls_map cell_pl cs)
    have h2 : (PyData.list (dWs (cs.map Cell.w))).depth ≤ 2 := by
      have e : (PyData.list (dWs (cs.map Cell.w))).depth = PyData.depthAll (dWs (cs.map Cell.w)) + 1 := rfl
      have := dps_dW (cs.map Cell.w)
      have := dps_map cell_dp cs
      omega
    refine ⟨by unfold PyData.canLayAll0; rw [h1, a]; rfl, ?_⟩
    unfold PyData.depthAll
    omega
theorem fNe_refs {M : Mh} {a1 a2 : Addr} {js : List Addr} {R : MK} (h1 : M a1 = some (.lst (js.map W.ref))) (h2 : M a2 = some (.lst [])) (h : ∀ r ∈ js, ∃ cs : List Cell, M r = some (.lst (cs.map Cell.w))) (k : ∀ c : Bool, (c = true ↔ js ≠ []) → R (.bl c) M) : fNe (.ref a1) (.ref a2) M R := by
  obtain ⟨ds, e, hl, hd⟩ := dats_refs h
  obtain ⟨la, ld⟩ := layAll_of hd
  have d1 : dat M 8 (.ref a1) = some (.list ds) := by
    unfold dat
    rw [h1]
    simp only [e, Option.map_some]
  have d2 : dat M 8 (.ref a2) = some (.list []) := by
    unfold dat
    rw [h2]
    simp [dats]
  have s1 : SeqAt.shaped (.list ds) = true := by
    unfold SeqAt.shaped
    rw [show PyData.canLay0 (.list ds) = PyData.canLayAll0 ds from rfl, la, Bool.true_and, decide_eq_true_eq]
    have : (PyData.list ds).depth = PyData.depthAll ds + 1 := rfl
    omega
  have s2 : SeqAt.shaped (.list []) = true := by decide
  have : eqW M (.ref a1) (.ref a2) = some (PyData.eqv (.list ds) (.list [])) := by
    unfold eqW
    simp only [d1, d2, s1, s2, Bool.and_self, if_true]
  unfold fNe
  rw [this]
  refine k _ ?_
  cases ds with
  | nil =>
    have : js = [] := by cases js with | nil => rfl | cons => simp at hl
    subst this
    simp [PyData.eqv, PyData.eqvAll]
  | cons d ds =>
    have : js ≠ [] := by intro z; subst z; simp at hl
    simp [PyData.eqv, PyData.eqvAll, this]
section
variable {q : Ads} {RX : MX} {M : Mh} {R : MK} {s : Addr} {n : Nat}
/-- those that are not empty -/
theorem L_nonempty {G : Mh → Prop} {e0 : MEnv} {F : List W → Mh → Prop} {M0 : Mh} {rs : List Addr} {css : List (List Cell)} (h : Lots M0 M s rs css) (he : 5 < e0.length) (hG : ∀ M', Sub M M' → G M') (k : ∀ M', Sub M M' → F ((neR rs css).map W.ref) M') :
    lcL G (.nm 5) (mVal (mOp fNe (mVar 5) (mLst []))) (mVar 5) e0 F (rs.map W.ref) [] M := by
  refine lcL_ind (fun i acc M' => Sub M M' ∧ acc = ((((rs.zip css).take i).filter fun x => !x.2.isEmpty).map Prod.fst).map W.ref) _ 0 _ _ ⟨Sub.refl, rfl⟩ ?_ ?_
  · rintro i w acc M' kk hw ⟨sM, rfl⟩ hk
    obtain ⟨r, hr, rfl⟩ := map_inv hw
    rw [Nat.zero_add] at hk
    have hl := (List.getElem?_eq_some_iff.mp hr).1
    obtain ⟨cs, hc⟩ : ∃ cs, css[i]? = some cs := ⟨_, List.getElem?_eq_getElem (by rw [← h.len]; exact hl)⟩
    have hz : (rs.zip css)[i]? = some (r, cs) := by rw [List.getElem?_zip_eq_some]; exact ⟨hr, hc⟩
    have hM := sM _ _ (h.at' i r cs hr hc)
    have e5 : (e0.set 5 (some (.ref r)))[5]? = some (some (.ref r)) := List.getElem?_set_self he
    refine ⟨hG M' sM, _, rfl, ?_⟩
    simp only [mVal, mOp, mLst, mArgs, mVar, e5]
    rw [Nat.zero_add]
    intro z hz0
    have rz : r ≠ z := ne_of_noneM hM hz0
    refine fNe_lst (xs := cs.map Cell.w) (ys := []) (by rw [updM_ne rz]; exact hM) updM_same (in_map (fun x => (cell_ok x).1) _) (by simp) (in_map (fun x => (cell_ok x).2) _) (by simp) fun b hb => ?_
    cases b with
    | true =>
      refine iteY rfl (hk _ _ ⟨sM.new hz0, ?_⟩)
      have : cs.isEmpty = false := by cases cs with | nil => exact absurd rfl (hb.mp rfl) | cons => rfl
      rw [take_next hz, List.filter_append, List.map_append, List.map_append]
      simp [this]
    | false =>
      refine iteN (by decide) (hk _ _ ⟨sM.new hz0, ?_⟩)
      have : cs.isEmpty = true := by cases cs with | nil => rfl | cons => have := hb.mpr (by simp); cases this
      rw [take_next hz, List.filter_append, List.map_append, List.map_append]
      simp [this]
  · rintro acc M' ⟨sM, rfl⟩
    refine ⟨hG M' sM, ?_⟩
    rw [List.length_map, Nat.zero_add, List.take_of_length_le (by rw [List.length_zip]; omega)]
    exact k M' sM
theorem L_laid {H : Nat} {steps : List Ins} {p : Addr} (hH : H ≤ 5) (hL : steps.length ≤ 5) (hp : M p = some (.lst (steps.map fun i => .tup i.ws))) (hs : Lv M s (n + 26))
    (k : ∀ r (cs : List Cell) M2, Go M s n M2 → M r = none → r ≠ s → M2 r = some (.lst (cs.map Cell.w)) → cs.length ≤ 25 → (∀ x ∈ cs, ∃ (h : Nat) (i : Ins), x = .ins h i ∧ h < H ∧ i ∈ steps) → R (.ref r) M2) : sp__law_laid q RX [.ref s, .int (H : Nat), .ref p] M R := by
  have psn := lv_at hs hp
  rw [un__law_laid]
  simp only [mDef, mSeq, mIfS, mVal, mNot, mAnd, mOr, mAndV, mOrV, mNotV, mIf, mOp, mChain, mVar, mC, mTup, mLst, mArgs, mCall, mFn, mDGet, mAsg, mRet, mNext, mRaise, mDrop, mIsi, bindT, setAll, startM, List.map_cons, List.map_nil, List.length_cons, List.length_nil, List.replicate, List.cons_append, List.nil_append, List.getElem?_cons_zero, List.getElem?_cons_succ, List.set_cons_succ, List.set_cons_zero, Nat.zero_add, Nat.reduceAdd, Nat.reduceSub, fII, fIIc, fLt, fLe, fGt, fGe, fSub, fMul, fDiv, fMod, fPow, fAdd_int, fLen, items, if_true, List.reverse_cons, List.reverse_nil, fEq_int, fNe_int, fEq_str, fNe_str, List.length_map, mFor, miEnum, miSeq, miRg1, miRg2, mLc, wipeM, mYes, mIsN, mNotN, mMeth, mNeg, mSl, mPart, mBrk, fI1, fI2]
  refine ⟨⟨by omega, by omega⟩, by rw [rg_len, sizeLine_eq]; omega, ?_⟩
  refine lcL_ind (fun i acc M' => ∃ rs css, acc = rs.map W.ref ∧ Lots M M' s rs css ∧ rs.length = i ∧ (∀ cs ∈ css, cs.length ≤ 5 ∧ ∀ x ∈ cs, ∃ (h : Nat) (i : Ins), x = .ins h i ∧ h < H ∧ i ∈ steps) ∧ Sub M M') _ 0 _ _ ⟨[], [], rfl, ⟨rfl, List.nodup_nil, by simp, by simp⟩, rfl, by simp, Sub.refl⟩ ?_ ?_
  · rintro i w acc M' kk hw ⟨rs, css, rfl, lo, h1, h2, sM⟩ hk
    obtain ⟨hi, rfl⟩ := rg_at hw
    rw [Nat.zero_add] at h1 hk
    refine ⟨trivial, _, rfl, ?_⟩
    have hp' := sM _ _ hp
    simp only [mDef, mSeq, mIfS, mVal, mNot, mAnd, mOr, mAndV, mOrV, mNotV, mIf, mOp, mChain, mVar, mC, mTup, mLst, mArgs, mCall, mFn, mDGet, mAsg, mRet, mNext, mRaise, mDrop, mIsi, bindT, setAll, startM, List.map_cons, List.map_nil, List.length_cons, List.length_nil, List.replicate, List.cons_append, List.nil_append, List.getElem?_cons_zero, List.getElem?_cons_succ, List.set_cons_succ, List.set_cons_zero, Nat.zero_add, Nat.reduceAdd, Nat.reduceSub, fII, fIIc, fLt, fLe, fGt, fGe, fSub, fMul, fDiv, fMod, fPow, fAdd_int, fLen, items, if_true, List.reverse_cons, List.reverse_nil, fEq_int, fNe_int, fEq_str, fNe_str, List.length_map, mFor, miEnum, miSeq, miRg1, miRg2, mLc, wipeM, mYes, mIsN, mNotN, mMeth, mNeg, mSl, mPart, mBrk, fI1, fI2, hp']
    refine ⟨by rw [sizeLine_eq]; omega, ?_⟩
    refine lcL_mapA (fun i : Ins => W.tup i.ws) (fun ii => (Cell.ins (i : Nat) ii).w) (fun _ => true) hp' _ _ (fun x hx => ?_) ?_
    · refine ⟨_, rfl, fun R hR => ?_, fun _ R hR => ?_⟩
      · exact hR
      · simp only [mDef, mSeq, mIfS, mVal, mNot, mAnd, mOr, mAndV, mOrV, mNotV, mIf, mOp, mChain, mVar, mC, mTup, mLst, mArgs, mCall, mFn, mDGet, mAsg, mRet, mNext, mRaise, mDrop, mIsi, bindT, setAll, startM, List.map_cons, List.map_nil, List.length_cons, List.length_nil, List.replicate, List.cons_append, List.nil_append, List.getElem?_cons_zero, List.getElem?_cons_succ, List.set_cons_succ, List.set_cons_zero, Nat.zero_add, Nat.reduceAdd, Nat.reduceSub, fII, fIIc, fLt, fLe, fGt, fGe, fSub, fMul, fDiv, fMod, fPow, fAdd_int, fLen, items, if_true, List.reverse_cons, List.reverse_nil, fEq_int, fNe_int, fEq_str, fNe_str, List.length_map, mFor, miEnum, miSeq, miRg1, miRg2, mLc, wipeM, mYes, mIsN, mNotN, mMeth, mNeg, mSl, mPart, mBrk, fI1, fI2]
        exact cat_tup (by cases x <;> simp [Ins.ws]) hR
    · rw [List.nil_append, List.filter_eq_self.mpr fun _ _ => rfl]
      intro r hr
      have hr0 := sM.free hr
      have hrs : r ∉ rs := fun z => by
        obtain ⟨j, cs, _, _, e⟩ := lo.mem z
        rw [hr] at e
        cases e
      have e : steps.map (fun ii => (Cell.ins (i : Nat) ii).w) = (steps.map fun ii => Cell.ins (i : Nat) ii).map Cell.w := by rw [List.map_map]; rfl
      rw [e]
      refine hk _ _ ⟨rs ++ [r], css ++ [steps.map fun ii => Cell.ins (i : Nat) ii], by rw [List.map_append]; rfl, (lo.up fun a _ xs h => by rw [updM_ne (ne_of_noneM h hr)]; exact h).snoc hrs hr0 (hs.ne hr0) updM_same, by simp [h1], fun cs hcs => ?_, sM.new hr⟩
      rcases List.mem_append.mp hcs with z | z
      · exact h2 cs z
      · rw [List.mem_singleton] at z
        subst z
        refine ⟨by rw [List.length_map]; exact hL, fun x hx => ?_⟩
        obtain ⟨ii, hii, rfl⟩ := List.mem_map.mp hx
        exact ⟨i, ii, rfl, hi, hii⟩
  · rintro acc M' ⟨rs, css, rfl, lo, h1, h2, sM⟩
    rw [Nat.zero_add, rg_len] at h1
    refine ⟨trivial, fun t ht => ?_⟩
    have ht0 := sM.free ht
    have trs : t ∉ rs := fun z => by
      obtain ⟨j, cs, _, _, e⟩ := lo.mem z
      rw [ht] at e
      cases e
    intro f hf
    have ft : f ≠ t := fun z => by subst z; rw [updM_same] at hf; cases hf
    have hf' : M' f = none := by rw [updM_ne ft] at hf; exact hf
    have hf0 := sM.free hf'
    have frs : f ∉ rs := fun z => by
      obtain ⟨j, cs, _, _, e⟩ := lo.mem z
      rw [hf'] at e
      cases e
    have fs := hs.ne hf0
    have ts := hs.ne ht0
    have sM2 : Sub M (updM (updM M' t (.lst (rs.map W.ref))) f (.lst [])) := (sM.new ht).new hf
    have lo2 : Lots M (updM (updM M' t (.lst (rs.map W.ref))) f (.lst [])) s rs css := lo.up fun a ha xs h => by
      rw [updM_ne fun z => frs (by rw [← z]; exact ha), updM_ne fun z => trs (by rw [← z]; exact ha)]
      exact h
    have ht2 : updM (updM M' t (.lst (rs.map W.ref))) f (.lst []) t = some (.lst (rs.map W.ref)) := by rw [updM_ne ft.symm, updM_same]
    have hf2 : updM (updM M' t (.lst (rs.map W.ref))) f (.lst []) f = some (.lst []) := updM_same
    revert lo2 ht2 hf2 sM2
    generalize updM (updM M' t (.lst (rs.map W.ref))) f (.lst []) = M1
    intro sM2 lo2 ht2 hf2
    have lv1 : Lv M1 s (n + 26) := by
      obtain ⟨m, a, b⟩ := hs
      exact ⟨m, a, sM2 _ _ b⟩
    have g1 : Go M s (n + 26) M1 := by
      obtain ⟨m, a, b⟩ := hs
      exact ⟨m, a, by rw [upd_self b]; exact sM2⟩
    have tot : sumL css ≤ 25 := by
      have := sumL_le (L := 5) fun cs hcs => (h2 cs hcs).1
      have : css.length = rs.length := lo.len.symm
      omega
    refine L_draw (n := n + 25) lv1 (by decide) (by decide) fun z M3 z0 z1 hA => ?_
    have g := g1.af hA
    have ht3 : M3 t = some (.lst (rs.map W.ref)) := by rw [hA.ne ts]; exact ht2
    have hf3 : M3 f = some (.lst []) := by rw [hA.ne fs]; exact hf2
    have lo3 : Lots M M3 s rs css := lo2.up fun a ha xs h => by rw [hA.ne (lo2.fresh a ha).2]; exact h
    by_cases hz : z = 0
    · refine iteY (decide_eq_true hz) ?_
      simp only [ht3]
      refine forL_ind (fun i e M' => ∃ (f : Addr) (cs0 : List Cell), M' f = some (.lst (cs0.map Cell.w)) ∧ M f = none ∧ f ≠ s ∧ Go M s (n + 25) M' ∧ Lots M M' s rs css ∧ M' t = some (.lst (rs.map W.ref)) ∧ cs0.length ≤ 5 * i ∧ (∀ x ∈ cs0, ∃ (h : Nat) (i : Ins), x = .ins h i ∧ h < H ∧ i ∈ steps) ∧ ∃ a b c d, e = [some (.ref s), some (.int (H : Nat)), some (.ref p), some (.ref t), some (.ref f), a, b, c, d]) _ 0 _ _ ⟨f, [], hf3, hf0, fs, g, lo3, ht3, Nat.le_refl _, by simp, none, none, none, none, rfl⟩ ?_ ?_
      · rintro i w e M' kk hw ⟨f, cs0, a1, a2, a3, g, lo, a5, a6, a7, a, b, c, d, rfl⟩ hk
        obtain ⟨r, hr, rfl⟩ := map_inv hw
        rw [Nat.zero_add] at a6 hk
        have hl := (List.getElem?_eq_some_iff.mp hr).1
        obtain ⟨cs, hc⟩ : ∃ cs, css[i]? = some cs := ⟨_, List.getElem?_eq_getElem (by rw [← lo.len]; exact hl)⟩
        have hM := lo.at' i r cs hr hc
        have hcs := h2 cs (List.mem_of_getElem? hc)
        refine ⟨a5, _, rfl, ?_⟩
        simp only [mDef, mSeq, mIfS, mVal, mNot, mAnd, mOr, mAndV, mOrV, mNotV, mIf, mOp, mChain, mVar, mC, mTup, mLst, mArgs, mCall, mFn, mDGet, mAsg, mRet, mNext, mRaise, mDrop, mIsi, bindT, setAll, startM, List.map_cons, List.map_nil, List.length_cons, List.length_nil, List.replicate, List.cons_append, List.nil_append, List.getElem?_cons_zero, List.getElem?_cons_succ, List.set_cons_succ, List.set_cons_zero, Nat.zero_add, Nat.reduceAdd, Nat.reduceSub, fII, fIIc, fLt, fLe, fGt, fGe, fSub, fMul, fDiv, fMod, fPow, fAdd_int, fLen, items, if_true, List.reverse_cons, List.reverse_nil, fEq_int, fNe_int, fEq_str, fNe_str, List.length_map, mFor, miEnum, miSeq, miRg1, miRg2, mLc, wipeM, mYes, mIsN, mNotN, mMeth, mNeg, mSl, mPart, mBrk, fI1, fI2]
        refine cat_ok a1 hM (by simp; omega) fun f2 hf2 => ?_
        obtain ⟨b1, b2⟩ := g.free hf2
        refine hk _ _ ⟨f2, cs0 ++ cs, by rw [updM_same, List.map_append], b1, b2, g.new hf2, lo.up fun a _ xs h => by rw [updM_ne (ne_of_noneM h hf2)]; exact h, by rw [updM_ne (ne_of_noneM a5 hf2)]; exact a5, by rw [List.length_append]; omega, fun x hx => ?_, _, _, _, _, rfl⟩
        rcases List.mem_append.mp hx with z | z
        · exact a7 x z
        · exact hcs.2 x z
      · rintro e M' ⟨f, cs0, a1, a2, a3, g, lo, a5, a6, a7, a, b, c, d, rfl⟩
        refine ⟨a5, ?_⟩
        rw [List.length_map, Nat.zero_add] at a6
        simp only [mDef, mSeq, mIfS, mVal, mNot, mAnd, mOr, mAndV, mOrV, mNotV, mIf, mOp, mChain, mVar, mC, mTup, mLst, mArgs, mCall, mFn, mDGet, mAsg, mRet, mNext, mRaise, mDrop, mIsi, bindT, setAll, startM, List.map_cons, List.map_nil, List.length_cons, List.length_nil, List.replicate, List.cons_append, List.nil_append, List.getElem?_cons_zero, List.getElem?_cons_succ, List.set_cons_succ, List.set_cons_zero, Nat.zero_add, Nat.reduceAdd, Nat.reduceSub, fII, fIIc, fLt, fLe, fGt, fGe, fSub, fMul, fDiv, fMod, fPow, fAdd_int, fLen, items, if_true, List.reverse_cons, List.reverse_nil, fEq_int, fNe_int, fEq_str, fNe_str, List.length_map, mFor, miEnum, miSeq, miRg1, miRg2, mLc, wipeM, mYes, mIsN, mNotN, mMeth, mNeg, mSl, mPart, mBrk, fI1, fI2]
        exact fg_of (k f cs0 M' (g.mono (by omega)) a2 a3 a1 (by omega) a7)
    · refine iteN (by rw [decide_eq_true_eq]; exact hz) ?_
      simp only [mWhile]
      refine ⟨fun m e M' => ∃ css cs0, Lots M M' s rs css ∧ m = sumL css ∧ M' t = some (.lst (rs.map W.ref)) ∧ M' f = some (.lst (cs0.map Cell.w)) ∧ cs0.length + m ≤ 25 ∧ Go M s (n + m) M' ∧ (∀ cs ∈ css, ∀ x ∈ cs, ∃ (h : Nat) (i : Ins), x = .ins h i ∧ h < H ∧ i ∈ steps) ∧ (∀ x ∈ cs0, ∃ (h : Nat) (i : Ins), x = .ins h i ∧ h < H ∧ i ∈ steps) ∧ ∃ a b c d, e = [some (.ref s), some (.int (H : Nat)), some (.ref p), some (.ref t), some (.ref f), a, b, c, d], ⟨_, css, [], lo3, rfl, ht3, hf3, by simpa using tot, g.mono (by omega), fun cs hcs => (h2 cs hcs).2, by simp, none, none, none, none, rfl⟩, ?_⟩
      rintro m e M' ⟨css, cs0, lo, hm, a1, a2, a3, g, a5, a6, a, b, c, d, rfl⟩
      have rl : rs.length ≤ 5 := by omega
      simp only [mDef, mSeq, mIfS, mVal, mNot, mAnd, mOr, mAndV, mOrV, mNotV, mIf, mOp, mChain, mVar, mC, mTup, mLst, mArgs, mCall, mFn, mDGet, mAsg, mRet, mNext, mRaise, mDrop, mIsi, bindT, setAll, startM, List.map_cons, List.map_nil, List.length_cons, List.length_nil, List.replicate, List.cons_append, List.nil_append, List.getElem?_cons_zero, List.getElem?_cons_succ, List.set_cons_succ, List.set_cons_zero, Nat.zero_add, Nat.reduceAdd, Nat.reduceSub, fII, fIIc, fLt, fLe, fGt, fGe, fSub, fMul, fDiv, fMod, fPow, fAdd_int, fLen, items, if_true, List.reverse_cons, List.reverse_nil, fEq_int, fNe_int, fEq_str, fNe_str, List.length_map, mFor, miEnum, miSeq, miRg1, miRg2, mLc, wipeM, mYes, mIsN, mNotN, mMeth, mNeg, mSl, mPart, mBrk, fI1, fI2, a1]
      refine ⟨by rw [sizeLine_eq]; omega, ?_⟩
      refine L_nonempty lo (by simp) (fun M2 sM => sM _ _ a1) fun M4 s4 => ?_
      intro u hu
      intro v hv
      have uv : u ≠ v := ne_of_noneM updM_same hv
      have s5 : Sub M' (updM (updM M4 u (.lst ((neR rs css).map W.ref))) v (.lst [])) := (s4.new hu).new hv
      have g5 : Go M s (n + m) (updM (updM M4 u (.lst ((neR rs css).map W.ref))) v (.lst [])) := by
        obtain ⟨y, y1, y2⟩ := g
        exact ⟨y, y1, y2.trans s5⟩
      have hne : ∀ r ∈ neR rs css, ∃ cs : List Cell, updM (updM M4 u (.lst ((neR rs css).map W.ref))) v (.lst []) r = some (.lst (cs.map Cell.w)) := fun r hr => by
        obtain ⟨j, x, tl, e1, e2⟩ := neR_mem hr
        exact ⟨_, s5 _ _ (lo.at' j r _ e1 e2)⟩
      refine fNe_refs (js := neR rs css) (by rw [updM_ne uv, updM_same]) updM_same hne fun bb hbb => ?_
      have lo5 : Lots M (updM (updM M4 u (.lst ((neR rs css).map W.ref))) v (.lst [])) s rs css := lo.up fun r _ xs h => s5 _ _ h
      have t5 := s5 _ _ a1
      have f5 := s5 _ _ a2
      revert g5 lo5 t5 f5
      generalize updM (updM M4 u (.lst ((neR rs css).map W.ref))) v (.lst []) = M5
      intro g5 lo5 t5 f5
      cases bb with
      | false =>
        refine iteN (by decide) ?_
        exact fg_of (k f cs0 M5 (g5.mono (by omega)) hf0 fs f5 (by omega) a6)
      | true =>
        refine iteY rfl ?_
        simp only [t5]
        refine ⟨by rw [sizeLine_eq]; have : (rs.map W.ref).length = rs.length := List.length_map _; omega, ?_⟩
        refine L_nonempty lo5 (by simp) (fun M2 sM => sM _ _ t5) fun M6 s6 => ?_
        intro x hx
        have s7 : Sub M5 (updM M6 x (.lst ((neR rs css).map W.ref))) := s6.new hx
        have g7 : Go M s (n + m) (updM M6 x (.lst ((neR rs css).map W.ref))) := by
          obtain ⟨y, y1, y2⟩ := g5
          exact ⟨y, y1, y2.trans s7⟩
        have f7 := s7 _ _ f5
        have t7 := s7 _ _ t5
        have lo7 : Lots M (updM M6 x (.lst ((neR rs css).map W.ref))) s rs css := lo5.up fun r _ xs h => s7 _ _ h
        have l0 : 0 < ((neR rs css).map W.ref).length := by
          rw [List.length_map]
          exact List.length_pos_iff.mpr (hbb.mp rfl)
        have l5 : ((neR rs css).map W.ref).length ≤ 5 := by
          unfold neR
          rw [List.length_map, List.length_map]
          have := List.length_filter_le (fun x : Addr × List Cell => !x.2.isEmpty) (rs.zip css)
          rw [List.length_zip] at this
          omega
        have mpos : 0 < m := by
          obtain ⟨r, hr⟩ := List.exists_mem_of_length_pos (List.length_pos_iff.mpr (hbb.mp rfl))
          obtain ⟨j, y, tl, e1, e2⟩ := neR_mem hr
          have := sumL_set e2
          omega
        refine ⟨by simp only [lstAt, f7]; rfl, ?_⟩
        refine L_pick (n := n + (m - 1)) updM_same l0 (by omega) (g7.mono (by omega)).lv fun w M8 hw hA => ?_
        have g8 := g7.af hA
        obtain ⟨r, hr, rfl⟩ := List.mem_map.mp hw
        obtain ⟨j, y, tl, e1, e2⟩ := neR_mem hr
        have lo8 : Lots M M8 s rs css := lo7.up fun a ha xs h => by rw [hA.ne (lo7.fresh a ha).2]; exact h
        have r8 := lo8.at' j r _ e1 e2
        have hrm := List.mem_of_getElem? e1
        have f8 : M8 f = some (.lst (cs0.map Cell.w)) := by rw [hA.ne fs]; exact f7
        have t8 : M8 t = some (.lst (rs.map W.ref)) := by rw [hA.ne ts]; exact t7
        have fr : f ≠ r := fun z => frs (by rw [z]; exact hrm)
        have tr : t ≠ r := fun z => trs (by rw [z]; exact hrm)
        have lr : (lstAt M8 (.ref r)).isSome = true := by simp only [lstAt, r8]; rfl
        refine ⟨lr, ?_⟩
        simp only [fPopAt, r8]
        refine ⟨by decide, by decide, ?_⟩
        have f9 : updM M8 r (.lst (tl.map Cell.w)) f = some (.lst (cs0.map Cell.w)) := by rw [updM_ne fr]; exact f8
        show fAppend (.ref f) [y.w] (updM M8 r (.lst (tl.map Cell.w))) _
        refine app_ok f9 (by rw [List.length_map]; omega) ?_
        have ft2 : t ≠ f := fun z => by
          rw [z, f8] at t8
          have := lo8.len
          cases cs0 with
          | nil =>
            simp at t8
            cases rs with
            | nil => cases hrm
            | cons _ _ => simp at t8
          | cons c0 c1 =>
            simp at t8
            cases rs with
            | nil => cases hrm
            | cons _ _ =>
              simp at t8
              have := t8.1
              cases c0 <;> cases this
        have pf : ∀ x ∈ css[j]?.getD [], ∃ (h : Nat) (i : Ins), x = .ins h i ∧ h < H ∧ i ∈ steps := by
          rw [e2]
          exact a5 _ (List.mem_of_getElem? e2)
        rw [e2] at pf
        refine ⟨m - 1, by omega, css.set j tl, cs0 ++ [y], (lo8.set e1).up fun a ha xs h => by rw [updM_ne fun z => frs (by rw [← z]; exact ha)]; exact h, ?_, ?_, ?_, ?_, ?_, fun cs hcs x hx => ?_, fun x hx => ?_, _, _, _, _, rfl⟩
        · have := sumL_set e2
          omega
        · rw [updM_ne ft2, updM_ne tr]
          exact t8
        · rw [updM_same, List.map_append]
          rfl
        · rw [List.length_append, List.length_singleton]
          omega
        · have := lo8.fresh r hrm
          exact ((g8.set this.1 this.2).set hf0 fs)
        · rcases List.mem_or_eq_of_mem_set hcs with z | z
          · exact a5 cs z x hx
          · subst z
            exact pf x (List.mem_cons_of_mem _ hx)
        · rcases List.mem_append.mp hx with z | z
          · exact a6 x z
          · rw [List.mem_singleton] at z
            subst z
            exact pf _ List.mem_cons_self
end
end K75


set_option Elab.async false
set_option linter.all false
set_option maxRecDepth 100000
set_option maxHeartbeats 8000000
namespace K75
open PySem PySem.Spec PyProof.Rows L2 ML
/-! # sure codes -/
inductive Kd where
  | sho | tur | tak | got | stp
  deriving DecidableEq
def Kd.nm : Kd → Str
  | .sho => "show" | .tur => "turn" | .tak => "take" | .got => "goto" | .stp => "stop"
def kW (b : Kd × Nat) : W := .tup [.str b.1.nm, .int (b.2 : Nat)]
section
variable {q : Ads} {RX : MX} {M : Mh} {R : MK} {s : Addr} {n : Nat}
theorem L_blocks {B : Nat} (hB : 2 ≤ B ∧ B ≤ 6) (hs : Lv M s (n + 18))
    (k : ∀ p (bl : List (Kd × Nat)) M2, Go M s n M2 → M p = none → p ≠ s → M2 p = some (.lst (bl.map kW)) → bl.length = B → (∀ b ∈ bl, b.2 < B) → R (.ref p) M2) : sp__law_code_blocks q RX [.ref s, .int (B : Nat)] M R := by
  rw [un__law_code_blocks]
  simp only [mDef, mSeq, mIfS, mVal, mNot, mAnd, mOr, mAndV, mOrV, mNotV, mIf, mOp, mChain, mVar, mC, mTup, mLst, mArgs, mCall, mFn, mDGet, mAsg, mRet, mNext, mRaise, mDrop, mIsi, bindT, setAll, startM, List.map_cons, List.map_nil, List.length_cons, List.length_nil, List.replicate, List.cons_append, List.nil_append, List.getElem?_cons_zero, List.getElem?_cons_succ, List.set_cons_succ, List.set_cons_zero, Nat.zero_add, Nat.reduceAdd, Nat.reduceSub, fII, fIIc, fLt, fLe, fGt, fGe, fSub, fMul, fDiv, fMod, fPow, fAdd_int, fLen, items, if_true, List.reverse_cons, List.reverse_nil, fEq_int, fNe_int, fEq_str, fNe_str, List.length_map, mFor, miEnum, miSeq, miRg1, miRg2, mLc, wipeM, mYes, mIsN, mNotN, mMeth, mNeg, mSl, mPart, mBrk, fI1, fI2]
  intro p hp
  have ps := hs.ne hp
  refine ⟨⟨by omega, by omega⟩, ?_⟩
  refine forL_ind (fun i e M' => ∃ bl : List (Kd × Nat), Go M s (n + 3 * (6 - i)) M' ∧ M' p = some (.lst (bl.map kW)) ∧ bl.length = i ∧ (∀ b ∈ bl, b.2 < B) ∧ ∃ a b c, e = [some (.ref s), some (.int (B : Nat)), some (.ref p), a, b, c]) _ 0 _ _ ⟨[], hs.go.new hp, updM_same, rfl, by simp, none, none, none, rfl⟩ ?_ ?_
  · rintro i w e M' kk hw ⟨bl, g, h1, h2, h3, a, b, c, rfl⟩ hk
    obtain ⟨hi, rfl⟩ := rg_at hw
    rw [Nat.zero_add] at h2 g hk
    refine ⟨trivial, _, rfl, ?_⟩
    simp only [mDef, mSeq, mIfS, mVal, mNot, mAnd, mOr, mAndV, mOrV, mNotV, mIf, mOp, mChain, mVar, mC, mTup, mLst, mArgs, mCall, mFn, mDGet, mAsg, mRet, mNext, mRaise, mDrop, mIsi, bindT, setAll, startM, List.map_cons, List.map_nil, List.length_cons, List.length_nil, List.replicate, List.cons_append, List.nil_append, List.getElem?_cons_zero, List.getElem?_cons_succ, List.set_cons_succ, List.set_cons_zero, Nat.zero_add, Nat.reduceAdd, Nat.reduceSub, fII, fIIc, fLt, fLe, fGt, fGe, fSub, fMul, fDiv, fMod, fPow, fAdd_int, fLen, items, if_true, List.reverse_cons, List.reverse_nil, fEq_int, fNe_int, fEq_str, fNe_str, List.length_map, mFor, miEnum, miSeq, miRg1, miRg2, mLc, wipeM, mYes, mIsN, mNotN, mMeth, mNeg, mSl, mPart, mBrk, fI1, fI2]
    have fin : ∀ (kd : Kd) (g0 : Nat) M3 (a b c : Option W), g0 < B → Go M s (n + 3 * (6 - (i + 1))) M3 → M3 p = some (.lst (bl.map kW)) → ((lstAt M3 (.ref p)).isSome = true ∧ fAppend (.ref p) [.tup [.str kd.nm, .int (g0 : Nat)]] M3 fun _ M1 => kk [some (.ref s), some (.int (B : Nat)), some (.ref p), a, b, c] M1) := fun kd g0 M3 a b c h0 g3 h4 => by
      refine ⟨by simp only [lstAt, h4]; rfl, app_ok h4 (by simp; omega) (hk _ _ ⟨bl ++ [(kd, g0)], g3.set hp ps, by rw [updM_same, List.map_append]; rfl, by simp [h2], fun b hb => ?_, _, _, _, rfl⟩)⟩
      rcases List.mem_append.mp hb with z | z
      · exact h3 b z
      · rw [List.mem_singleton] at z
        subst z
        exact h0
    by_cases hlast : i = B - 1
    · refine iteY (decide_eq_true (by omega)) (iteN (by rw [decide_eq_true_eq]; omega) ?_)
      exact fin .stp 0 M' _ _ _ (by omega) (g.mono (by omega)) h1
    · refine iteN (by rw [decide_eq_true_eq]; omega) ?_
      intro r hr
      refine L_pick (n := n + 3 * (6 - (i + 1)) + 2) updM_same (by simp) (by simp) ((g.mono (by omega)).new hr).lv fun w M4 hw hA => ?_
      have g4 := (g.new hr).af hA
      have h4 : M4 p = some (.lst (bl.map kW)) := by rw [hA.ne ps, updM_ne (ne_of_noneM h1 hr)]; exact h1
      obtain ⟨kd, rfl⟩ : ∃ kd : Kd, w = .str kd.nm := by
        simp only [List.mem_cons, List.not_mem_nil, or_false] at hw
        rcases hw with rfl | rfl | rfl | rfl | rfl | rfl
        · exact ⟨.sho, rfl⟩
        · exact ⟨.sho, rfl⟩
        · exact ⟨.tur, rfl⟩
        · exact ⟨.tak, rfl⟩
        · exact ⟨.got, rfl⟩
        · exact ⟨.sho, rfl⟩
      refine iteY (decide_eq_true (by omega)) ?_
      refine L_draw (n := n + 3 * (6 - (i + 1)) + 1) g4.lv (by omega) (by omega) fun z M5 z0 z1 hA => ?_
      have g5 := g4.af hA
      have h5 : M5 p = some (.lst (bl.map kW)) := by rw [hA.ne ps]; exact h4
      intro r2 hr2
      refine L_pick (n := n + 3 * (6 - (i + 1))) updM_same (by simp) (by simp) (g5.new hr2).lv fun w M6 hw hA => ?_
      have g6 := (g5.new hr2).af hA
      have h6 : M6 p = some (.lst (bl.map kW)) := by rw [hA.ne ps, updM_ne (ne_of_noneM h5 hr2)]; exact h5
      obtain ⟨v, rfl, hv⟩ : ∃ v : Nat, w = .int (v : Nat) ∧ v < B := by
        simp only [List.mem_cons, List.not_mem_nil, or_false] at hw
        rcases hw with rfl | rfl | rfl
        · exact ⟨i + 1, rfl, by omega⟩
        · exact ⟨B - 1, by congr 1; omega, by omega⟩
        · exact ⟨z.toNat, by congr 1; omega, by omega⟩
      exact fin kd v M6 _ _ _ hv g6 h6
  · rintro e M' ⟨bl, g, h1, h2, h3, a, b, c, rfl⟩
    rw [Nat.zero_add, rg_len] at h2
    refine ⟨trivial, ?_⟩
    simp only [mDef, mSeq, mIfS, mVal, mNot, mAnd, mOr, mAndV, mOrV, mNotV, mIf, mOp, mChain, mVar, mC, mTup, mLst, mArgs, mCall, mFn, mDGet, mAsg, mRet, mNext, mRaise, mDrop, mIsi, bindT, setAll, startM, List.map_cons, List.map_nil, List.length_cons, List.length_nil, List.replicate, List.cons_append, List.nil_append, List.getElem?_cons_zero, List.getElem?_cons_succ, List.set_cons_succ, List.set_cons_zero, Nat.zero_add, Nat.reduceAdd, Nat.reduceSub, fII, fIIc, fLt, fLe, fGt, fGe, fSub, fMul, fDiv, fMod, fPow, fAdd_int, fLen, items, if_true, List.reverse_cons, List.reverse_nil, fEq_int, fNe_int, fEq_str, fNe_str, List.length_map, mFor, miEnum, miSeq, miRg1, miRg2, mLc, wipeM, mYes, mIsN, mNotN, mMeth, mNeg, mSl, mPart, mBrk, fI1, fI2]
    exact fg_of (k p bl M' (g.mono (by omega)) hp ps h1 h2 h3)
/-- what stands where a cell may still be missing -/
def ocW : Option Cell → W
  | none => .non
  | some x => x.w
def nonI : Option Cell → Bool
  | none => true
  | some x => x.isS
structure Half (votes : List Int) (z : Int) (bk : Nat) (hs : List Nat) (en : List (Nat × Kd × Nat)) (B : Nat) (xs : List (Option Cell)) : Prop where
  cells : ∀ x, some x ∈ xs → x.isS = false ∧ ∀ mn, x.fit votes.length z mn bk = true
  ends : ∀ e ∈ en, e.1 < xs.length ∧ xs[e.1]? = some none ∧ e.2.2 < B
  all : ∀ i, xs[i]? = some none → ∃ e ∈ en, e.1 = i
  nd : (en.map fun e => e.1).Nodup
  heads : ∀ h ∈ hs, h < xs.length
  non : (xs.filter nonI).length = en.length
def eW (e : Nat × Kd × Nat) : W := .tup [.int (e.1 : Nat), .str e.2.1.nm, .int (e.2.2 : Nat)]
theorem go_go {M M1 M2 : Mh} {s : Addr} {n m : Nat} (h : Go M s n M1) (h2 : Go M1 s m M2) : Go M s m M2 := by
  obtain ⟨a, _, b⟩ := h
  obtain ⟨c, d, e⟩ := h2
  exact ⟨c, d, (sub_set b).trans e⟩
theorem go_keep {M M1 : Mh} {s a : Addr} {n : Nat} {o : MO} (h : Go M s n M1) (ha : a ≠ s) (e : M a = some o) : M1 a = some o := by
  obtain ⟨_, _, b⟩ := h
  exact b a o (by rw [updM_ne ha]; exact e)
theorem Half.snoc {votes : List Int} {z : Int} {bk B : Nat} {hd : List Nat} {en : List (Nat × Kd × Nat)} {xs : List (Option Cell)} (h : Half votes z bk hd en B xs) {cs : List Cell} (hc : ∀ x ∈ cs, x.isS = false ∧ ∀ mn, x.fit votes.length z mn bk = true) (kd : Kd) {go : Nat} (hg : go < B) :
    Half votes z bk (hd ++ [xs.length]) (en ++ [(xs.length + cs.length, kd, go)]) B (xs ++ cs.map some ++ [none]) := by
  have ll : (xs ++ cs.map some).length = xs.length + cs.length := by simp
  refine ⟨fun x hx => ?_, fun e he => ?_, fun i hi => ?_, ?_, fun a ha => ?_, ?_⟩
  · rcases List.mem_append.mp hx with z | z
    · rcases List.mem_append.mp z with z | z
      · exact h.cells x z
      · obtain ⟨y, hy, e⟩ := List.mem_map.mp z
        cases e
        exact hc _ hy
    · simp at z
  · rcases List.mem_append.mp he with z | z
    · obtain ⟨a, b, c⟩ := h.ends e z
      refine ⟨by simp; omega, ?_, c⟩
      rw [List.append_assoc, List.getElem?_append_left a]
      exact b
    · rw [List.mem_singleton] at z
      subst z
      refine ⟨by simp, ?_, hg⟩
      show (xs ++ cs.map some ++ [none])[xs.length + cs.length]? = some none
      rw [List.getElem?_append_right (by omega), ll]
      simp
  · rcases Nat.lt_or_ge i xs.length with a | a
    · rw [List.append_assoc, List.getElem?_append_left a] at hi
      obtain ⟨e, he, e2⟩ := h.all i hi
      exact ⟨e, List.mem_append_left _ he, e2⟩
    · rcases Nat.lt_or_ge i (xs.length + cs.length) with b | b
      · rw [List.getElem?_append_left (by omega), List.getElem?_append_right a, List.getElem?_map] at hi
        cases e : cs[i - xs.length]? with
        | none => rw [e] at hi; cases hi
        | some y => rw [e] at hi; cases hi
      · have := (List.getElem?_eq_some_iff.mp hi).1
        simp at this
        exact ⟨_, List.mem_append_right _ (List.mem_singleton.mpr rfl), by show xs.length + cs.length = i; omega⟩
  · rw [List.map_append, List.nodup_append]
    refine ⟨h.nd, by simp, fun a ha b hb => ?_⟩
    obtain ⟨e, he, rfl⟩ := List.mem_map.mp ha
    simp at hb
    have := (h.ends e he).1
    omega
  · rcases List.mem_append.mp ha with z | z
    · have := h.heads a z
      simp
      omega
    · rw [List.mem_singleton] at z
      subst z
      simp
  · rw [List.filter_append, List.filter_append, List.length_append, List.length_append, h.non, List.length_append]
    have : (cs.map some).filter nonI = [] := by
      rw [List.filter_eq_nil_iff]
      intro o ho
      obtain ⟨y, hy, rfl⟩ := List.mem_map.mp ho
      show ¬ y.isS = true
      rw [(hc y hy).1]
      decide
    rw [this]
    rfl
theorem all_some : ∀ {ys : List (Option Cell)}, (∀ i : Nat, ys[i]? ≠ some none) → ∃ cs : List Cell, ys = cs.map some
  | [], _ => ⟨[], rfl⟩
  | none :: ys, h => absurd rfl (h 0)
  | some x :: ys, h => by
    obtain ⟨cs, rfl⟩ := all_some (ys := ys) fun i => h (i + 1)
    exact ⟨x :: cs, rfl⟩
theorem filterO (cs : List Cell) : ((cs.map some).filter nonI).length = (cs.filter Cell.isS).length := by
  rw [List.filter_map, List.length_map]
  rfl
theorem filterB : ∀ {xs ys : List (Option Cell)}, ys.map nonI = xs.map nonI → (ys.filter nonI).length = (xs.filter nonI).length
  | [], [], _ => rfl
  | [], _ :: _, h => by simp at h
  | _ :: _, [], h => by simp at h
  | x :: xs, y :: ys, h => by
    simp only [List.map_cons, List.cons.injEq] at h
    rw [List.filter_cons, List.filter_cons, h.1]
    have := filterB h.2
    split <;> simp [this]
theorem Kd.show_in (kd : Kd) : (eqF (.str "show") (.str kd.nm) || (eqF (.str "turn") (.str kd.nm) || false)) = (decide (kd = .sho) || decide (kd = .tur)) := by
  cases kd <;> decide
theorem L_sure {votes : List Int} {z : Int} (hv : votesFit votes = true) (hz : 2 ≤ z ∧ z ≤ 10000) (hs : Lv M s (n + 500)) (k : ∀ c M2, Gc c → c.votes = votes → c.size = z → (c.cells.filter Cell.isS).length ≤ 6 → Af M s n M2 → R c.w M2) : sp__law_sure_code q RX [.ref s, isW votes, .int z] M R := by
  have vl := votesFit_len hv
  rw [un__law_sure_code]
  simp only [mDef, mSeq, mIfS, mVal, mNot, mAnd, mOr, mAndV, mOrV, mNotV, mIf, mOp, mChain, mVar, mC, mTup, mLst, mArgs, mCall, mFn, mDGet, mAsg, mRet, mNext, mRaise, mDrop, mIsi, bindT, setAll, startM, List.map_cons, List.map_nil, List.length_cons, List.length_nil, List.replicate, List.cons_append, List.nil_append, List.getElem?_cons_zero, List.getElem?_cons_succ, List.set_cons_succ, List.set_cons_zero, Nat.zero_add, Nat.reduceAdd, Nat.reduceSub, fII, fIIc, fLt, fLe, fGt, fGe, fSub, fMul, fDiv, fMod, fPow, fAdd_int, fLen, items, if_true, List.reverse_cons, List.reverse_nil, fEq_int, fNe_int, fEq_str, fNe_str, List.length_map, mFor, miEnum, miSeq, miRg1, miRg2, mLc, wipeM, mYes, mIsN, mNotN, mMeth, mNeg, mSl, mPart, mBrk, fI1, fI2, items_is]
  intro p1 hp1
  refine L_pick (n := n + 499) updM_same (by simp) (by simp) (hs.new hp1) fun w M2 hw hA => ?_
  have g := (hs.go.new hp1).af hA
  obtain ⟨bk, rfl, b5⟩ : ∃ b : Nat, w = .int (b : Nat) ∧ b ≤ 5 := by
    simp only [List.mem_cons, List.not_mem_nil, or_false] at hw
    rcases hw with rfl | rfl | rfl | rfl
    · exact ⟨3, rfl, by decide⟩
    · exact ⟨0, rfl, by decide⟩
    · exact ⟨1, rfl, by decide⟩
    · exact ⟨5, rfl, by decide⟩
  intro pc hpc ph hph pe hpe pt hpt
  obtain ⟨c0, cs0⟩ := g.free hpc
  have g := g.new (o := .lst []) hpc
  obtain ⟨h0, hs0⟩ := g.free hph
  have g := g.new (o := .lst []) hph
  obtain ⟨e0, es0⟩ := g.free hpe
  have g := g.new (o := .lst []) hpe
  have cph : pc ≠ ph := fun z => by subst z; rw [updM_same] at hph; cases hph
  have eph : ph ≠ pe := fun z => by subst z; rw [updM_same] at hpe; cases hpe
  have cpe : pc ≠ pe := fun z => by subst z; rw [updM_ne cph, updM_same] at hpe; cases hpe
  have m1 : updM (updM (updM M2 pc (.lst [])) ph (.lst [])) pe (.lst []) pc = some (.lst []) := by rw [updM_ne cpe, updM_ne cph, updM_same]
  have m2 : updM (updM (updM M2 pc (.lst [])) ph (.lst [])) pe (.lst []) ph = some (.lst []) := by rw [updM_ne eph, updM_same]
  have m3 : updM (updM (updM M2 pc (.lst [])) ph (.lst [])) pe (.lst []) pe = some (.lst []) := updM_same
  revert g m1 m2 m3 hpt
  generalize updM (updM (updM M2 pc (.lst [])) ph (.lst [])) pe (.lst []) = M3
  intro hpt g m1 m2 m3
  refine L_pick (n := n + 498) updM_same (by simp) (by simp) (g.new hpt).lv fun w M4 hw hA => ?_
  have g := (g.new hpt).af hA
  have m1 : M4 pc = some (.lst []) := by rw [hA.ne cs0, updM_ne (ne_of_noneM m1 hpt)]; exact m1
  have m2 : M4 ph = some (.lst []) := by rw [hA.ne hs0, updM_ne (ne_of_noneM m2 hpt)]; exact m2
  have m3 : M4 pe = some (.lst []) := by rw [hA.ne es0, updM_ne (ne_of_noneM m3 hpt)]; exact m3
  obtain ⟨B, rfl, hB⟩ : ∃ b : Nat, w = .int (b : Nat) ∧ 2 ≤ b ∧ b ≤ 6 := by
    simp only [List.mem_cons, List.not_mem_nil, or_false] at hw
    rcases hw with rfl | rfl | rfl | rfl
    · exact ⟨3, rfl, by decide, by decide⟩
    · exact ⟨4, rfl, by decide, by decide⟩
    · exact ⟨2, rfl, by decide, by decide⟩
    · exact ⟨6, rfl, by decide, by decide⟩
  refine L_blocks (n := n + 480) hB g.lv fun pb bl M5 gb b0 bs m4 bl1 bl2 => ?_
  have m1 := go_keep gb cs0 m1
  have m2 := go_keep gb hs0 m2
  have m3 := go_keep gb es0 m3
  have g5 := go_go g gb
  obtain ⟨b0, _⟩ := g.free b0
  have bc : pb ≠ pc := fun z => by subst z; have := gb; rw [m1] at m4; cases bl <;> simp at m4; simp at bl1; omega
  simp only [m4]
  refine forL_ind (fun i e M' => ∃ (pc : Addr) (xs : List (Option Cell)) (hd : List Nat) (en : List (Nat × Kd × Nat)), Go M s (n + 40 + 60 * (6 - i)) M' ∧ M pc = none ∧ pc ≠ s ∧ M' pc = some (.lst (xs.map ocW)) ∧ M' ph = some (.lst (hd.map nW)) ∧ M' pe = some (.lst (en.map eW)) ∧ M' pb = some (.lst (bl.map kW)) ∧
    Half votes z bk hd en B xs ∧ hd.length = i ∧ en.length = i ∧ xs.length ≤ 26 * i ∧ pc ≠ ph ∧ pc ≠ pe ∧ pc ≠ pb ∧ ∃ x3 x9 x10 x11 x12 x13 x14, e = [some (.ref s), some (isW votes), some (.int z), x3, some (.int (votes.length : Nat)), some (.int (bk : Nat)), some (.ref pc), some (.ref ph), some (.ref pe), x9, x10, x11, x12, x13, x14]) _ 0 _ _
    ⟨pc, [], [], [], g5.mono (by omega), c0, cs0, m1, m2, m3, m4, ⟨by simp, by simp, by simp, by simp, by simp, rfl⟩, rfl, rfl, Nat.le_refl _, cph, cpe, bc.symm, none, none, none, none, none, none, none, by rw [List.length_map]⟩ ?_ ?_
  · rintro i w e M' kk hw ⟨pc, xs, hd, en, g, c0, cs0, m1, m2, m3, m4, hf, l1, l2, l3, cph, cpe, cpb, x3, x9, x10, x11, x12, x13, x14, rfl⟩ hk
    obtain ⟨b, hb, rfl⟩ := map_inv hw
    rw [Nat.zero_add] at l1 l2 l3 g hk
    have hi := (List.getElem?_eq_some_iff.mp hb).1
    have hbB := bl2 b (List.mem_of_getElem? hb)
    refine ⟨m4, _, rfl, ?_⟩
    simp only [mDef, mSeq, mIfS, mVal, mNot, mAnd, mOr, mAndV, mOrV, mNotV, mIf, mOp, mChain, mVar, mC, mTup, mLst, mArgs, mCall, mFn, mDGet, mAsg, mRet, mNext, mRaise, mDrop, mIsi, bindT, setAll, startM, List.map_cons, List.map_nil, List.length_cons, List.length_nil, List.replicate, List.cons_append, List.nil_append, List.getElem?_cons_zero, List.getElem?_cons_succ, List.set_cons_succ, List.set_cons_zero, Nat.zero_add, Nat.reduceAdd, Nat.reduceSub, fII, fIIc, fLt, fLe, fGt, fGe, fSub, fMul, fDiv, fMod, fPow, fAdd_int, fLen, items, if_true, List.reverse_cons, List.reverse_nil, fEq_int, fNe_int, fEq_str, fNe_str, List.length_map, mFor, miEnum, miSeq, miRg1, miRg2, mLc, wipeM, mYes, mIsN, mNotN, mMeth, mNeg, mSl, mPart, mBrk, fI1, fI2, m1]
    refine ⟨by simp only [lstAt, m2]; rfl, app_ok m2 (by simp; omega) ?_⟩
    have hpbh : ph ≠ pb := fun z => by
      subst z
      rw [m2] at m4
      have := congrArg (fun o => match o with | some (MO.lst l) => l.length | _ => 0) m4
      simp at this
      omega
    have g := g.set (o := .lst (hd.map nW ++ [.int (xs.length : Nat)])) h0 hs0
    have peh : pe ≠ ph := eph.symm
    have n1 : updM M' ph (.lst (hd.map nW ++ [.int (xs.length : Nat)])) pc = some (.lst (xs.map ocW)) := by rw [updM_ne cph]; exact m1
    have n2 : updM M' ph (.lst (hd.map nW ++ [.int (xs.length : Nat)])) ph = some (.lst ((hd ++ [xs.length]).map nW)) := by rw [updM_same, List.map_append]; rfl
    have n3 : updM M' ph (.lst (hd.map nW ++ [.int (xs.length : Nat)])) pe = some (.lst (en.map eW)) := by rw [updM_ne peh]; exact m3
    have n4 : updM M' ph (.lst (hd.map nW ++ [.int (xs.length : Nat)])) pb = some (.lst (bl.map kW)) := by rw [updM_ne hpbh.symm]; exact m4
    revert g n1 n2 n3 n4
    generalize updM M' ph (.lst (hd.map nW ++ [.int (xs.length : Nat)])) = M6
    intro g n1 n2 n3 n4
    intro t ht
    refine L_pick (n := n + 40 + 60 * (6 - (i + 1)) + 59) updM_same (by simp) (by simp) ((g.mono (by omega)).new ht).lv fun w M7 hw hA => ?_
    have g := (g.new ht).af hA
    have keep : ∀ a xs, a ≠ s → M6 a = some (.lst xs) → M7 a = some (.lst xs) := fun a xs ha h => by rw [hA.ne ha, updM_ne (ne_of_noneM h ht)]; exact h
    have n1 := keep _ _ cs0 n1
    have n2 := keep _ _ hs0 n2
    have n3 := keep _ _ es0 n3
    have n4 := keep _ _ bs n4
    obtain ⟨ct, rfl, ct4⟩ : ∃ b : Nat, w = .int (b : Nat) ∧ b ≤ 4 := by
      simp only [List.mem_cons, List.not_mem_nil, or_false] at hw
      rcases hw with rfl | rfl | rfl | rfl
      · exact ⟨2, rfl, by decide⟩
      · exact ⟨1, rfl, by decide⟩
      · exact ⟨3, rfl, by decide⟩
      · exact ⟨4, rfl, by decide⟩
    refine ⟨⟨by omega, by omega⟩, by rw [rg_len, sizeLine_eq]; omega, ?_⟩
    refine lcL_ind (fun j acc M8 => ∃ st : List Ins, acc = st.map (fun i => W.tup i.ws) ∧ st.length = j ∧ (∀ i ∈ st, i.fit z bk = true) ∧ Go M s (n + 40 + 60 * (6 - (i + 1)) + 30 + 7 * (4 - j)) M8 ∧ M8 pc = some (.lst (xs.map ocW)) ∧ M8 ph = some (.lst ((hd ++ [xs.length]).map nW)) ∧ M8 pe = some (.lst (en.map eW)) ∧ M8 pb = some (.lst (bl.map kW))) _ 0 _ _ ⟨[], rfl, rfl, by simp, g.mono (by omega), n1, n2, n3, n4⟩ ?_ ?_
    · rintro j w acc M8 k2 hw ⟨st, rfl, a1, a2, g, n1, n2, n3, n4⟩ hk2
      obtain ⟨hj, rfl⟩ := rg_at hw
      rw [Nat.zero_add] at a1 g hk2
      refine ⟨trivial, _, rfl, ?_⟩
      simp only [mDef, mSeq, mIfS, mVal, mNot, mAnd, mOr, mAndV, mOrV, mNotV, mIf, mOp, mChain, mVar, mC, mTup, mLst, mArgs, mCall, mFn, mDGet, mAsg, mRet, mNext, mRaise, mDrop, mIsi, bindT, setAll, startM, List.map_cons, List.map_nil, List.length_cons, List.length_nil, List.replicate, List.cons_append, List.nil_append, List.getElem?_cons_zero, List.getElem?_cons_succ, List.set_cons_succ, List.set_cons_zero, Nat.zero_add, Nat.reduceAdd, Nat.reduceSub, fII, fIIc, fLt, fLe, fGt, fGe, fSub, fMul, fDiv, fMod, fPow, fAdd_int, fLen, items, if_true, List.reverse_cons, List.reverse_nil, fEq_int, fNe_int, fEq_str, fNe_str, List.length_map, mFor, miEnum, miSeq, miRg1, miRg2, mLc, wipeM, mYes, mIsN, mNotN, mMeth, mNeg, mSl, mPart, mBrk, fI1, fI2]
      refine L_plain_step (n := n + 40 + 60 * (6 - (i + 1)) + 30 + 7 * (4 - (j + 1))) hz (by omega) (g.mono (by omega)).lv fun ii M9 hii hA => ?_
      refine hk2 _ _ ⟨st ++ [ii], by rw [List.map_append]; rfl, by simp [a1], fun y hy => ?_, g.af hA, by rw [hA.ne cs0]; exact n1, by rw [hA.ne hs0]; exact n2, by rw [hA.ne es0]; exact n3, by rw [hA.ne bs]; exact n4⟩
      rcases List.mem_append.mp hy with y1 | y1
      · exact a2 y y1
      · rw [List.mem_singleton] at y1
        subst y1
        exact hii
    · rintro acc M8 ⟨st, rfl, a1, a2, g, n1, n2, n3, n4⟩
      rw [Nat.zero_add, rg_len] at a1
      refine ⟨trivial, fun sp hsp => ?_⟩
      obtain ⟨sp0, sps⟩ := g.free hsp
      have kp : ∀ a xs, M8 a = some (.lst xs) → updM M8 sp (.lst (st.map fun i => W.tup i.ws)) a = some (.lst xs) := fun a xs h => by rw [updM_ne (ne_of_noneM h hsp)]; exact h
      have n1 := kp _ _ n1
      have n2 := kp _ _ n2
      have n3 := kp _ _ n3
      have n4 := kp _ _ n4
      have n5 : updM M8 sp (.lst (st.map fun i => W.tup i.ws)) sp = some (.lst (st.map fun i => W.tup i.ws)) := updM_same
      have g := g.new (o := .lst (st.map fun i => W.tup i.ws)) hsp
      have spc : sp ≠ pc := fun y => by subst y; rw [updM_same] at n1; have := kp; exact (ne_of_noneM (M := M8) (o := .lst (xs.map ocW)) (by assumption) hsp) rfl
      have sph : sp ≠ ph := fun y => by subst y; exact (ne_of_noneM (M := M8) (o := .lst ((hd ++ [xs.length]).map nW)) (by assumption) hsp) rfl
      have spe : sp ≠ pe := fun y => by subst y; exact (ne_of_noneM (M := M8) (o := .lst (en.map eW)) (by assumption) hsp) rfl
      have spb : sp ≠ pb := fun y => by subst y; exact (ne_of_noneM (M := M8) (o := .lst (bl.map kW)) (by assumption) hsp) rfl
      clear kp
      revert n1 n2 n3 n4 n5 g
      generalize updM M8 sp (.lst (st.map fun i => W.tup i.ws)) = M9
      intro n1 n2 n3 n4 n5 g
      -- what comes behind the steps
      have behind : ∀ (st : List Ins) M9, st.length ≤ 5 → (∀ i ∈ st, i.fit z bk = true) → Go M s (n + 40 + 60 * (6 - (i + 1)) + 26) M9 → M9 pc = some (.lst (xs.map ocW)) → M9 ph = some (.lst ((hd ++ [xs.length]).map nW)) → M9 pe = some (.lst (en.map eW)) → M9 pb = some (.lst (bl.map kW)) → M9 sp = some (.lst (st.map fun i => W.tup i.ws)) → ∀ x3 x11 x12 x13 x14,
          sp__law_laid q (fgX RX) [.ref s, .int (votes.length : Nat), .ref sp] M9 fun y M2 => fAdd (.ref pc) y M2 fun w M1 => (lstAt M1 (.ref pe)).isSome = true ∧ fLen [w] M1 fun l M2 => fAppend (.ref pe) [.tup [l, .str b.1.nm, .int (b.2 : Nat)]] M2 fun _ M1 => (lstAt M1 w).isSome = true ∧ fAppend w [.non] M1 fun _ M1 => kk [some (.ref s), some (isW votes), some (.int z), x3, some (.int (votes.length : Nat)), some (.int (bk : Nat)), some w, some (.ref ph), some (.ref pe), some (.str b.1.nm), some (.int (b.2 : Nat)), x11, x12, x13, x14] M1 := fun st M9 hst hfit g n1 n2 n3 n4 n5 x3 x11 x12 x13 x14 => by
        refine L_laid (n := n + 40 + 60 * (6 - (i + 1))) (by omega) hst n5 g.lv fun r cs M10 g10 r0 rs0 r1 r2 r3 => ?_
        have n1 := go_keep g10 cs0 n1
        have n2 := go_keep g10 hs0 n2
        have n3 := go_keep g10 es0 n3
        have n4 := go_keep g10 bs n4
        have g := go_go g g10
        refine cat_ok n1 r1 (by simp; omega) fun pc2 hpc2 => ?_
        obtain ⟨c20, c2s⟩ := g.free hpc2
        have c2h : pc2 ≠ ph := (ne_of_noneM n2 hpc2).symm
        have c2e : pc2 ≠ pe := (ne_of_noneM n3 hpc2).symm
        have c2b : pc2 ≠ pb := (ne_of_noneM n4 hpc2).symm
        have n3' : updM M10 pc2 (.lst (xs.map ocW ++ cs.map Cell.w)) pe = some (.lst (en.map eW)) := by rw [updM_ne c2e.symm]; exact n3
        refine ⟨by simp only [lstAt, n3']; rfl, ?_⟩
        simp only [fLen, items, updM_same]
        refine app_ok n3' (by simp; omega) ?_
        have pe2 : pe ≠ pc2 := c2e.symm
        have n1' : ∀ u, updM (updM M10 pc2 (.lst (xs.map ocW ++ cs.map Cell.w))) pe u pc2 = some (.lst (xs.map ocW ++ cs.map Cell.w)) := fun u => by rw [updM_ne c2e, updM_same]
        refine ⟨by simp only [lstAt, n1']; rfl, app_ok (n1' _) (by simp; omega) ?_⟩
        have hb3 : ph ≠ pb := hpbh
        have eb3 : pe ≠ pb := fun y => by
          rw [y, n4] at n3
          have := congrArg (fun o => match o with | some (MO.lst l) => l.length | _ => 0) n3
          simp at this
          omega
        refine hk _ _ ⟨pc2, xs ++ cs.map some ++ [none], hd ++ [xs.length], en ++ [(xs.length + cs.length, b.1, b.2)], ?_, c20, c2s, ?_, ?_, ?_, ?_, hf.snoc (fun x hx => ?_) b.1 hbB, by simp [l1], by simp [l2], by simp; omega, c2h, c2e, c2b, _, _, _, _, _, _, _, rfl⟩
        · exact ((g.new hpc2).set e0 es0).set c20 c2s
        · rw [updM_same]
          simp only [List.map_append, List.map_map]
          rfl
        · rw [updM_ne c2h.symm, updM_ne eph, updM_ne c2h.symm]
          exact n2
        · rw [updM_ne pe2, updM_same, List.map_append]
          simp [eW, ocW]
        · rw [updM_ne c2b.symm, updM_ne eb3.symm, updM_ne c2b.symm]
          exact n4
        · obtain ⟨h, ii, rfl, h5, h6⟩ := r3 x hx
          refine ⟨rfl, fun mn => ?_⟩
          show (bt 0 (h : Int) ((votes.length : Int) - 1) && ii.fit z bk) = true
          rw [hfit ii h6]
          unfold bt
          rw [decide_eq_true (by omega), decide_eq_true (by omega)]
          rfl
      intro lt hlt
      refine fIn_of (c := decide (b.1 = .sho) || decide (b.1 = .tur)) ?_ ?_
      · have e : items (updM M9 lt (.lst [.str "show", .str "turn"])) (.ref lt) = some [.str "show", .str "turn"] := by simp only [items, updM_same]
        unfold inW
        rw [e]
        simp only [flatW, List.all_cons, List.all_nil, Bool.and_self, if_true, List.any_cons, List.any_nil]
        rw [Kd.show_in]
      have kq : ∀ a xs, M9 a = some (.lst xs) → updM M9 lt (.lst [.str "show", .str "turn"]) a = some (.lst xs) := fun a xs h => by rw [updM_ne (ne_of_noneM h hlt)]; exact h
      have g := g.new (o := .lst [.str "show", .str "turn"]) hlt
      cases hsh : (decide (b.1 = .sho) || decide (b.1 = .tur)) with
      | false => exact iteN (by decide) (behind st _ (by omega) a2 (g.mono (by omega)) (kq _ _ n1) (kq _ _ n2) (kq _ _ n3) (kq _ _ n4) (kq _ _ n5) _ _ _ _ _)
      | true =>
        refine iteY rfl ⟨by simp only [lstAt, kq _ _ n5]; rfl, ?_⟩
        refine L_draw (n := n + 40 + 60 * (6 - (i + 1)) + 26) (g.mono (by omega)).lv (by decide) (by decide) fun v M11 v0 v1 hA => ?_
        have g := g.af hA
        have n5' : M11 sp = some (.lst (st.map fun i => W.tup i.ws)) := by rw [hA.ne sps]; exact kq _ _ n5
        refine app_ok n5' (by simp; omega) ?_
        refine behind (st ++ [.off v]) _ (by simp; omega) (fun y hy => ?_) ((g.set sp0 sps).mono (by omega)) ?_ ?_ ?_ ?_ ?_ _ _ _ _ _
        · rcases List.mem_append.mp hy with y1 | y1
          · exact a2 y y1
          · rw [List.mem_singleton] at y1
            subst y1
            show rg v = true
            unfold rg
            rw [decide_eq_true (by omega), decide_eq_true (by omega)]; rfl
        · rw [updM_ne spc.symm, hA.ne cs0]; exact kq _ _ n1
        · rw [updM_ne sph.symm, hA.ne hs0]; exact kq _ _ n2
        · rw [updM_ne spe.symm, hA.ne es0]; exact kq _ _ n3
        · rw [updM_ne spb.symm, hA.ne bs]; exact kq _ _ n4
        · rw [updM_same, List.map_append]
          rfl
  · rintro e M' ⟨pc, xs, hd, en, g, c0, cs0, m1, m2, m3, m4, hf, l1, l2, l3, cph, cpe, cpb, x3, x9, x10, x11, x12, x13, x14, rfl⟩
    refine ⟨m4, ?_⟩
    rw [List.length_map, Nat.zero_add] at l1 l2 l3 g
    simp only [mDef, mSeq, mIfS, mVal, mNot, mAnd, mOr, mAndV, mOrV, mNotV, mIf, mOp, mChain, mVar, mC, mTup, mLst, mArgs, mCall, mFn, mDGet, mAsg, mRet, mNext, mRaise, mDrop, mIsi, bindT, setAll, startM, List.map_cons, List.map_nil, List.length_cons, List.length_nil, List.replicate, List.cons_append, List.nil_append, List.getElem?_cons_zero, List.getElem?_cons_succ, List.set_cons_succ, List.set_cons_zero, Nat.zero_add, Nat.reduceAdd, Nat.reduceSub, fII, fIIc, fLt, fLe, fGt, fGe, fSub, fMul, fDiv, fMod, fPow, fAdd_int, fLen, items, if_true, List.reverse_cons, List.reverse_nil, fEq_int, fNe_int, fEq_str, fNe_str, List.length_map, mFor, miEnum, miSeq, miRg1, miRg2, mLc, wipeM, mYes, mIsN, mNotN, mMeth, mNeg, mSl, mPart, mBrk, fI1, fI2, m3]
    have l1 : hd.length = B := by omega
    have l2 : en.length = B := by omega
    have l3 : xs.length ≤ 156 := by omega
    have g := g.mono (m := n + 30) (by omega)
    have ho : 1 ≤ (votes.length : Int) ∧ (votes.length : Int) ≤ 5 := by omega
    refine forL_ind (fun j e M' => ∃ ys : List (Option Cell), M' pc = some (.lst (ys.map ocW)) ∧ M' ph = some (.lst (hd.map nW)) ∧ M' pe = some (.lst (en.map eW)) ∧ Go M s (n + 20 + (6 - j)) M' ∧ ys.length = xs.length ∧ ys.map nonI = xs.map nonI ∧ (∀ x, some x ∈ ys → x.fit votes.length z xs.length bk = true) ∧ (∀ i, ys[i]? = some none → ∃ e ∈ en.drop j, e.1 = i) ∧
      ∃ x3 x9 x10 x11 x12 x13 x14, e = [some (.ref s), some (isW votes), some (.int z), x3, some (.int (votes.length : Nat)), some (.int (bk : Nat)), some (.ref pc), some (.ref ph), some (.ref pe), x9, x10, x11, x12, x13, x14]) _ 0 _ _
      ⟨xs, m1, m2, m3, g.mono (by omega), rfl, rfl, fun x hx => (hf.cells x hx).2 _, fun i hi => hf.all i hi, _, _, _, _, _, _, _, rfl⟩ ?_ ?_
    · rintro j w e M' kk hw ⟨ys, m1, m2, m3, g, y1, y2, y3, y4, x3, x9, x10, x11, x12, x13, x14, rfl⟩ hk
      obtain ⟨e, he, rfl⟩ := map_inv hw
      rw [Nat.zero_add] at g y4 hk
      have hj := (List.getElem?_eq_some_iff.mp he).1
      have hem := List.mem_of_getElem? he
      obtain ⟨e1, e2, e3⟩ := hf.ends e hem
      refine ⟨m3, _, rfl, ?_⟩
      have fin : ∀ (x : Cell) M2 x3 x9 x10 x11 x12 x13 x14, x.isS = true → x.fit votes.length z xs.length bk = true → Go M s (n + 20 + (6 - (j + 1))) M2 → M2 pc = some (.lst (ys.map ocW)) → M2 ph = some (.lst (hd.map nW)) → M2 pe = some (.lst (en.map eW)) →
          (match M2 pc with
            | some (.lst ws) => match ixN ws.length (e.1 : Nat) with
              | some j => kk [some (.ref s), some (isW votes), some (.int z), x3, some (.int (votes.length : Nat)), some (.int (bk : Nat)), some (.ref pc), some (.ref ph), some (.ref pe), x9, x10, x11, x12, x13, x14] (updM M2 pc (.lst (ws.set j x.w)))
              | none => False
            | some (.dct kvs) => match keyOf (.int (e.1 : Nat)) with
              | some k => kvs.length < sizeLine ∧ kk [some (.ref s), some (isW votes), some (.int z), x3, some (.int (votes.length : Nat)), some (.int (bk : Nat)), some (.ref pc), some (.ref ph), some (.ref pe), x9, x10, x11, x12, x13, x14] (updM M2 pc (.dct (putW kvs k x.w)))
              | none => False
            | _ => False) := fun x M2 x3 x9 x10 x11 x12 x13 x14 hS hfit g n1 n2 n3 => by
        have ix : ixN (ys.map ocW).length (e.1 : Nat) = some e.1 := by
          unfold ixN
          rw [if_pos (by omega)]
          simp
          omega
        simp only [n1, ix]
        have hset : (ys.map ocW).set e.1 x.w = (ys.set e.1 (some x)).map ocW := (List.map_set (f := ocW) (a := some x)).symm
        rw [hset]
        refine hk _ _ ⟨ys.set e.1 (some x), updM_same, by rw [updM_ne cph.symm]; exact n2, by rw [updM_ne cpe.symm]; exact n3, g.set c0 cs0, by rw [List.length_set]; exact y1, ?_, fun y hy => ?_, fun i hi => ?_, _, _, _, _, _, _, _, rfl⟩
        · rw [List.map_set, y2]
          have : nonI (some x) = true := hS
          rw [this]
          have hx : (xs.map nonI)[e.1]? = some true := by rw [List.getElem?_map, e2]; rfl
          apply List.ext_getElem?
          intro i
          by_cases z : i = e.1
          · subst z
            rw [List.getElem?_set_self (by rw [List.length_map]; exact e1), hx]
          · rw [List.getElem?_set_ne fun a => z a.symm]
        · rcases List.mem_or_eq_of_mem_set hy with z | z
          · exact y3 y z
          · cases z
            exact hfit
        · by_cases z : i = e.1
          · subst z
            rw [List.getElem?_set_self (by omega)] at hi
            cases hi
          · rw [List.getElem?_set_ne fun a => z a.symm] at hi
            obtain ⟨e', he', e4⟩ := y4 i hi
            rw [drop_at he] at he'
            rcases List.mem_cons.mp he' with a | a
            · subst a
              exact absurd e4.symm z
            · exact ⟨e', a, e4⟩
      have btk : ∀ lo i hi : Int, lo ≤ i → i ≤ hi → bt lo i hi = true := fun lo i hi a b => by
        unfold bt
        rw [decide_eq_true a, decide_eq_true b]; rfl
      have bh : bt 1 (votes.length : Nat) (votes.length : Nat) = true := btk _ _ _ ho.1 (Int.le_refl _)
      obtain ⟨gh, hgh⟩ : ∃ gh, hd[e.2.2]? = some gh := ⟨_, List.getElem?_eq_getElem (by omega)⟩
      have hgl := hf.heads gh (List.mem_of_getElem? hgh)
      have hix : ∀ {R : MK}, R (.int (gh : Nat)) M' → fIx (.ref ph) (.int (e.2.2 : Nat)) M' R := fun {R} hR => by
        rw [fIx_lst m2 hgh]
        exact hR
      simp only [mDef, mSeq, mIfS, mVal, mNot, mAnd, mOr, mAndV, mOrV, mNotV, mIf, mOp, mChain, mVar, mC, mTup, mLst, mArgs, mCall, mFn, mDGet, mAsg, mRet, mNext, mRaise, mDrop, mIsi, bindT, setAll, startM, List.map_cons, List.map_nil, List.length_cons, List.length_nil, List.replicate, List.cons_append, List.nil_append, List.getElem?_cons_zero, List.getElem?_cons_succ, List.set_cons_succ, List.set_cons_zero, Nat.zero_add, Nat.reduceAdd, Nat.reduceSub, fII, fIIc, fLt, fLe, fGt, fGe, fSub, fMul, fDiv, fMod, fPow, fAdd_int, fLen, items, if_true, List.reverse_cons, List.reverse_nil, fEq_int, fNe_int, fEq_str, fNe_str, List.length_map, mFor, miEnum, miSeq, miRg1, miRg2, mLc, wipeM, mYes, mIsN, mNotN, mMeth, mNeg, mSl, mPart, mBrk, fI1, fI2, mPut]
      cases hkd : e.2.1 with
      | sho =>
        refine iteY (by decide) ?_
        intro r hr
        refine L_pick (n := n + 20 + (6 - (j + 1))) updM_same (by simp) (by simp) ((g.mono (by omega)).new hr).lv fun w M8 hw hA => ?_
        have g8 := (g.new hr).af hA
        have kp : ∀ a ws, a ≠ s → M' a = some (.lst ws) → M8 a = some (.lst ws) := fun a ws ha h => by rw [hA.ne ha, updM_ne (ne_of_noneM h hr)]; exact h
        obtain ⟨v, rfl, v0, v5⟩ : ∃ v : Int, w = .int v ∧ 0 ≤ v ∧ v ≤ 5 := by
          simp only [List.mem_cons, List.not_mem_nil, or_false] at hw
          rcases hw with rfl | rfl | rfl <;> exact ⟨_, rfl, by decide, by decide⟩
        exact fin (.thr .sho v (votes.length : Nat)) M8 _ _ _ _ _ _ _ rfl (by show (bt 1 (votes.length : Nat) (votes.length : Nat) && bt 0 v 5) = true; rw [bh, btk 0 v 5 v0 v5]; rfl) g8 (kp _ _ cs0 m1) (kp _ _ hs0 m2) (kp _ _ es0 m3)
      | tak =>
        refine iteN (by decide) (iteY (by decide) ?_)
        refine L_draw (n := n + 20 + (6 - (j + 1))) (g.mono (by omega)).lv (by decide) (by decide) fun v M8 v0 v1 hA => ?_
        exact fin (.thr .tak v (votes.length : Nat)) M8 _ _ _ _ _ _ _ rfl (by show (bt 1 (votes.length : Nat) (votes.length : Nat) && bt 0 v 7) = true; rw [bh, btk 0 v 7 v0 (by omega)]; rfl) (g.af hA) (by rw [hA.ne cs0]; exact m1) (by rw [hA.ne hs0]; exact m2) (by rw [hA.ne es0]; exact m3)
      | tur =>
        refine iteN (by decide) (iteN (by decide) (iteY (by decide) (hix ?_)))
        exact fin (.thr .tur (gh : Nat) (votes.length : Nat)) M' _ _ _ _ _ _ _ rfl (by show (bt 1 (votes.length : Nat) (votes.length : Nat) && bt 0 (gh : Nat) ((xs.length : Nat) - 1)) = true; rw [bh, btk 0 (gh : Nat) ((xs.length : Nat) - 1) (by omega) (by omega)]; rfl) (g.mono (by omega)) m1 m2 m3
      | got =>
        refine iteN (by decide) (iteN (by decide) (iteN (by decide) (iteY (by decide) (hix ?_))))
        exact fin (.goto (gh : Nat)) M' _ _ _ _ _ _ _ rfl (btk 0 (gh : Nat) ((xs.length : Nat) - 1) (by omega) (by omega)) (g.mono (by omega)) m1 m2 m3
      | stp =>
        refine iteN (by decide) (iteN (by decide) (iteN (by decide) (iteN (by decide) ?_)))
        exact fin (.one .stop) M' _ _ _ _ _ _ _ rfl rfl (g.mono (by omega)) m1 m2 m3
    · rintro e M' ⟨ys, m1, m2, m3, g, y1, y2, y3, y4, x3, x9, x10, x11, x12, x13, x14, rfl⟩
      refine ⟨m3, ?_⟩
      rw [List.length_map, Nat.zero_add, List.drop_length] at y4
      obtain ⟨cs, rfl⟩ := all_some fun i hi => by
        obtain ⟨e, he, _⟩ := y4 i hi
        cases he
      rw [List.length_map] at y1
      simp only [mDef, mSeq, mIfS, mVal, mNot, mAnd, mOr, mAndV, mOrV, mNotV, mIf, mOp, mChain, mVar, mC, mTup, mLst, mArgs, mCall, mFn, mDGet, mAsg, mRet, mNext, mRaise, mDrop, mIsi, bindT, setAll, startM, List.map_cons, List.map_nil, List.length_cons, List.length_nil, List.replicate, List.cons_append, List.nil_append, List.getElem?_cons_zero, List.getElem?_cons_succ, List.set_cons_succ, List.set_cons_zero, Nat.zero_add, Nat.reduceAdd, Nat.reduceSub, fII, fIIc, fLt, fLe, fGt, fGe, fSub, fMul, fDiv, fMod, fPow, fAdd_int, fLen, items, if_true, List.reverse_cons, List.reverse_nil, fEq_int, fNe_int, fEq_str, fNe_str, List.length_map, mFor, miEnum, miSeq, miRg1, miRg2, mLc, wipeM, mYes, mIsN, mNotN, mMeth, mNeg, mSl, mPart, mBrk, fI1, fI2]
      refine ⟨⟨by omega, by omega⟩, by rw [rg_len, sizeLine_eq]; omega, ?_⟩
      refine L_numbers (M0 := M) (n := n) hz (g.mono (by omega)) (fun _ _ => trivial) (fun w => ⟨rfl, rfl⟩) fun is M7 i1 i2 g7 hm => ?_
      intro p3 hp3
      refine fTuple_of (xs := is.map W.int) (by simp only [items, updM_same]) ?_
      have m7 := hm _ _ cs0 m1
      have oc : (cs.map some).map ocW = cs.map Cell.w := by rw [List.map_map]; rfl
      rw [oc] at m7
      refine fTuple_of (xs := cs.map Cell.w) (by simp only [items]; rw [updM_ne (ne_of_noneM m7 hp3), m7]) ?_
      have nn : (cs.filter Cell.isS).length ≤ 6 := by
        rw [← filterO, filterB y2, hf.non]
        omega
      have c1 : 1 ≤ cs.length := by
        have hB1 : 0 < en.length := by omega
        have := (hf.ends _ (List.getElem_mem hB1)).1
        omega
      refine (g7.new hp3).close fun M8 h8 => ?_
      refine k ⟨votes, z, cs, is⟩ M8 ⟨fit_mk hv hz (by omega) i2 c1 (by omega) fun x hx => ?_, by show cs.length ≤ 200; omega, by show (cs.filter Cell.isS).length ≤ 20; omega⟩ rfl rfl nn h8
      rw [y1, i1]
      exact y3 x (List.mem_map.mpr ⟨x, hx, rfl⟩)
end
end K75


set_option Elab.async false
set_option linter.all false
set_option maxRecDepth 100000
set_option maxHeartbeats 8000000
namespace K75
open PySem PySem.Spec PyProof.Rows L2 ML
/-! # any code; the law -/
theorem inHd {M : Mh} {r : Addr} {x : Cell} (hr : M r = some (.lst [.str "show", .str "turn"])) : inW M x.hd (.ref r) = some (match x with | .thr .sho _ _ => true | .thr .tur _ _ => true | _ => false) := by
  have e : items M (.ref r) = some [.str "show", .str "turn"] := by simp only [items, hr]
  unfold inW
  rw [e]
  cases x with
  | ins h i => rfl
  | thr w a n => cases w <;> (simp only [Cell.hd, flatW, List.all_cons, List.all_nil, Bool.and_self, if_true, List.any_cons, List.any_nil, eqF]; decide)
  | goto a => simp only [Cell.hd, flatW, List.all_cons, List.all_nil, Bool.and_self, if_true, List.any_cons, List.any_nil, eqF]; decide
  | one w => cases w <;> (simp only [Cell.hd, flatW, List.all_cons, List.all_nil, Bool.and_self, if_true, List.any_cons, List.any_nil, eqF]; decide)
theorem fEq_show {x : Cell} {M : Mh} {R : MK} (k1 : (∃ a n, x = .thr .sho a n) → R (.bl true) M) (k2 : R (.bl false) M) : fEq x.hd (.str "show") M R := by
  refine fEq_pl (hd_pl x) (by decide +kernel) (by rw [hd_dp]; decide) (Nat.zero_le _) fun c hc => ?_
  cases c with
  | false => exact k2
  | true =>
    have := hc.mp rfl
    cases x with
    | ins h i => cases this
    | thr w a n =>
      cases w with
      | sho => exact k1 ⟨a, n, rfl⟩
      | tur => exact absurd this (by simp only [Cell.hd, W.str.injEq]; decide)
      | tak => exact absurd this (by simp only [Cell.hd, W.str.injEq]; decide)
    | goto a => exact absurd this (by simp only [Cell.hd, W.str.injEq]; decide)
    | one w => cases w <;> exact absurd this (by simp only [Cell.hd, W.str.injEq]; decide)
theorem filter_isS : ∀ {ys xs : List Cell}, ys.map Cell.isS = xs.map Cell.isS → (ys.filter Cell.isS).length = (xs.filter Cell.isS).length
  | [], [], _ => rfl
  | [], _ :: _, h => by simp at h
  | _ :: _, [], h => by simp at h
  | y :: ys, x :: xs, h => by
    simp only [List.map_cons, List.cons.injEq] at h
    rw [List.filter_cons, List.filter_cons, h.1]
    have := filter_isS h.2
    split <;> simp [this]
section
variable {q : Ads} {RX : MX} {M : Mh} {R : MK} {s : Addr} {n : Nat}
theorem L_mk_sure {votes : List Int} (hv : votesFit votes = true) (hs : Lv M s (n + 702)) (k : ∀ c M2, Gc c → (c.cells.filter Cell.isS).length ≤ 6 → Af M s n M2 → R c.w M2) : sp__law_mk_sure q RX [.ref s, isW votes] M R := by
  have vl := votesFit_len hv
  rw [un__law_mk_sure]
  simp only [mDef, mSeq, mIfS, mVal, mNot, mAnd, mOr, mAndV, mOrV, mNotV, mIf, mOp, mChain, mVar, mC, mTup, mLst, mArgs, mCall, mFn, mDGet, mAsg, mRet, mNext, mRaise, mDrop, mIsi, bindT, setAll, startM, List.map_cons, List.map_nil, List.length_cons, List.length_nil, List.replicate, List.cons_append, List.nil_append, List.getElem?_cons_zero, List.getElem?_cons_succ, List.set_cons_succ, List.set_cons_zero, Nat.zero_add, Nat.reduceAdd, Nat.reduceSub, fII, fIIc, fLt, fLe, fGt, fGe, fSub, fMul, fDiv, fMod, fPow, fAdd_int, fLen, items, if_true, List.reverse_cons, List.reverse_nil, fEq_int, fNe_int, fEq_str, fNe_str, List.length_map, mFor, miEnum, miSeq, miRg1, miRg2, mLc, wipeM, mYes, mIsN, mNotN, mMeth, mNeg, mSl, mPart, mBrk, fI1, fI2]
  refine L_size (n := n + 701) hs fun z M2 z0 z1 hA => ?_
  have g := hs.go.af hA
  refine L_sure (n := n + 201) hv ⟨z0, z1⟩ g.lv fun c M3 hc hcv hcz hst hA => ?_
  have g := g.af hA
  refine L_draw (n := n + 200) g.lv (by decide) (by decide) fun way M4 w0 w1 hA => ?_
  have g := g.af hA
  intro p1 hp1 f hf
  obtain ⟨f0, fs⟩ := (g.new (o := .lst []) hp1).free hf
  have g := (g.new (o := .lst []) hp1).new (o := .lst []) hf
  have hfl : updM (updM M4 p1 (.lst [])) f (.lst []) f = some (.lst []) := updM_same
  revert g hfl
  generalize updM (updM M4 p1 (.lst [])) f (.lst []) = M5
  intro g hfl
  simp only [mDef, mSeq, mIfS, mVal, mNot, mAnd, mOr, mAndV, mOrV, mNotV, mIf, mOp, mChain, mVar, mC, mTup, mLst, mArgs, mCall, mFn, mDGet, mAsg, mRet, mNext, mRaise, mDrop, mIsi, bindT, setAll, startM, List.map_cons, List.map_nil, List.length_cons, List.length_nil, List.replicate, List.cons_append, List.nil_append, List.getElem?_cons_zero, List.getElem?_cons_succ, List.set_cons_succ, List.set_cons_zero, Nat.zero_add, Nat.reduceAdd, Nat.reduceSub, fII, fIIc, fLt, fLe, fGt, fGe, fSub, fMul, fDiv, fMod, fPow, fAdd_int, fLen, items, if_true, List.reverse_cons, List.reverse_nil, fEq_int, fNe_int, fEq_str, fNe_str, List.length_map, mFor, miEnum, miSeq, miRg1, miRg2, mLc, wipeM, mYes, mIsN, mNotN, mMeth, mNeg, mSl, mPart, mBrk, fI1, fI2, fIx_c1, fIx_c2, fIx_c3, csW]
  have hcl := hc.len
  have hfit := hc.cd.parts.2.2.2.2.2
  refine forL_ind (fun j e M' => ∃ ys : List Cell, M' f = some (.lst (ys.map Cell.w)) ∧ ys.map Cell.isS = (c.cells.take j).map Cell.isS ∧ (∀ y ∈ ys, c.fits y = true) ∧ Go M s (n + (200 - j)) M' ∧ ∃ a b, e = [some (.ref s), some (isW votes), some c.w, a, some (.int way), b, some (.ref f)]) _ 0 _ _ ⟨[], hfl, rfl, by simp, g.mono (by omega), none, _, rfl⟩ ?_ ?_
  · rintro j w e M' kk hw ⟨ys, m1, y1, y2, g, a, b, rfl⟩ hk
    obtain ⟨x, hx, rfl⟩ := map_inv hw
    rw [Nat.zero_add] at y1 g hk
    have hj := (List.getElem?_eq_some_iff.mp hx).1
    have hxf := hfit x (List.mem_of_getElem? hx)
    have yl : ys.length = j := by
      have := congrArg List.length y1
      simp at this
      omega
    refine ⟨trivial, _, rfl, ?_⟩
    have fin : ∀ (y : Cell) M2 a b, y.isS = x.isS → c.fits y = true → Go M s (n + (200 - (j + 1))) M2 → M2 f = some (.lst (ys.map Cell.w)) → ((lstAt M2 (.ref f)).isSome = true ∧ fAppend (.ref f) [y.w] M2 fun _ M1 => kk [some (.ref s), some (isW votes), some c.w, a, some (.int way), b, some (.ref f)] M1) := fun y M2 a b h1 h2 g h3 => by
      refine ⟨by simp only [lstAt, h3]; rfl, app_ok h3 (by simp; omega) (hk _ _ ⟨ys ++ [y], by rw [updM_same, List.map_append]; rfl, ?_, fun u hu => ?_, g.set f0 fs, _, _, rfl⟩)⟩
      · rw [take_next hx, List.map_append, List.map_append, y1]
        simp [h1]
      · rcases List.mem_append.mp hu with v | v
        · exact y2 u v
        · rw [List.mem_singleton] at v
          subst v
          exact h2
    have hvl : c.hues = (votes.length : Nat) := by unfold Code.hues; rw [hcv]
    have btk : ∀ lo i hi : Int, lo ≤ i → i ≤ hi → bt lo i hi = true := fun lo i hi a b => by
      unfold bt
      rw [decide_eq_true a, decide_eq_true b]; rfl
    have same : ∀ M2 a b, Go M s (n + (200 - j)) M2 → M2 f = some (.lst (ys.map Cell.w)) → ((lstAt M2 (.ref f)).isSome = true ∧ fAppend (.ref f) [x.w] M2 fun _ M1 => kk [some (.ref s), some (isW votes), some c.w, a, some (.int way), b, some (.ref f)] M1) := fun M2 a b g h => fin x M2 a b rfl hxf (g.mono (by omega)) h
    simp only [mDef, mSeq, mIfS, mVal, mNot, mAnd, mOr, mAndV, mOrV, mNotV, mIf, mOp, mChain, mVar, mC, mTup, mLst, mArgs, mCall, mFn, mDGet, mAsg, mRet, mNext, mRaise, mDrop, mIsi, bindT, setAll, startM, List.map_cons, List.map_nil, List.length_cons, List.length_nil, List.replicate, List.cons_append, List.nil_append, List.getElem?_cons_zero, List.getElem?_cons_succ, List.set_cons_succ, List.set_cons_zero, Nat.zero_add, Nat.reduceAdd, Nat.reduceSub, fII, fIIc, fLt, fLe, fGt, fGe, fSub, fMul, fDiv, fMod, fPow, fAdd_int, fLen, items, if_true, List.reverse_cons, List.reverse_nil, fEq_int, fNe_int, fEq_str, fNe_str, List.length_map, mFor, miEnum, miSeq, miRg1, miRg2, mLc, wipeM, mYes, mIsN, mNotN, mMeth, mNeg, mSl, mPart, mBrk, fI1, fI2, fIx0, isW]
    by_cases hw1 : way = 1
    · refine iteY (decide_eq_true hw1) ?_
      intro p hp
      have gp := g.new (o := .lst [.str "show", .str "turn"]) hp
      have mp : updM M' p (.lst [.str "show", .str "turn"]) f = some (.lst (ys.map Cell.w)) := by rw [updM_ne (ne_of_noneM m1 hp)]; exact m1
      have nw2 : ¬ decide (way = 2) = true := by rw [decide_eq_true_eq]; omega
      refine fIn_of (inHd updM_same) ?_
      cases x with
      | ins h i => exact iteN (show ¬ false = true by decide) (iteN nw2 (iteN (by decide) (same _ _ _ gp mp)))
      | goto a' => exact iteN (show ¬ false = true by decide) (iteN nw2 (iteN (by decide) (same _ _ _ gp mp)))
      | one w => exact iteN (show ¬ false = true by decide) (iteN nw2 (iteN (by decide) (same _ _ _ gp mp)))
      | thr w a' n' =>
        cases w with
        | tak => exact iteN (show ¬ false = true by decide) (iteN nw2 (iteN (by decide) (same _ _ _ gp mp)))
        | sho =>
          have hx2 : (bt 1 n' c.hues && bt 0 a' 5) = true := hxf
          rw [Bool.and_eq_true] at hx2
          refine iteY rfl ?_
          simp only [Cell.w, fIx, items, at1]
          refine L_draw (n := n + (200 - (j + 1))) (gp.mono (by omega)).lv (by omega) (by omega) fun d M8 d0 d1 hA => ?_
          refine iteN nw2 (iteN (by decide) ?_)
          exact fin (.thr .sho a' (1 + d)) M8 _ _ rfl (by show (bt 1 (1 + d) c.hues && bt 0 a' 5) = true; rw [hx2.2, btk 1 (1 + d) c.hues (by omega) (by omega)]; rfl) (gp.af hA) (by rw [hA.ne fs]; exact mp)
        | tur =>
          have hx2 : (bt 1 n' c.hues && bt 0 a' (c.many - 1)) = true := hxf
          rw [Bool.and_eq_true] at hx2
          refine iteY rfl ?_
          simp only [Cell.w, fIx, items, at1]
          refine L_draw (n := n + (200 - (j + 1))) (gp.mono (by omega)).lv (by omega) (by omega) fun d M8 d0 d1 hA => ?_
          refine iteN nw2 (iteN (by decide) ?_)
          exact fin (.thr .tur a' (1 + d)) M8 _ _ rfl (by show (bt 1 (1 + d) c.hues && bt 0 a' (c.many - 1)) = true; rw [hx2.2, btk 1 (1 + d) c.hues (by omega) (by omega)]; rfl) (gp.af hA) (by rw [hA.ne fs]; exact mp)
    · refine iteN (by rw [decide_eq_true_eq]; exact hw1) (iteN (by decide) ?_)
      by_cases hw2 : way = 2
      · refine iteY (decide_eq_true hw2) (fEq_show (fun ⟨a', n', hxe⟩ => iteY rfl ?_) (iteN (by decide) (iteN (by decide) (same _ _ _ g m1))))
        refine L_draw (n := n + (200 - (j + 1))) (g.mono (by omega)).lv (by decide) (by decide) fun d M8 d0 d1 hA => ?_
        have m8 : M8 f = some (.lst (ys.map Cell.w)) := by rw [hA.ne fs]; exact m1
        by_cases hd : d = 0
        · refine iteY (decide_eq_true hd) ?_
          exact fin (.one .mark) M8 _ _ (by subst hxe; rfl) rfl (g.af hA) m8
        · refine iteN (by rw [decide_eq_true_eq]; exact hd) ?_
          exact fin x M8 _ _ rfl hxf (g.af hA) m8
      · exact iteN (by rw [decide_eq_true_eq]; exact hw2) (iteN (by decide) (same _ _ _ g m1))
  · rintro e M' ⟨ys, m1, y1, y2, g, a, b, rfl⟩
    refine ⟨trivial, ?_⟩
    rw [List.length_map, Nat.zero_add, List.take_length] at y1
    have yl : ys.length = c.cells.length := by
      have := congrArg List.length y1
      simpa using this
    simp only [mDef, mSeq, mIfS, mVal, mNot, mAnd, mOr, mAndV, mOrV, mNotV, mIf, mOp, mChain, mVar, mC, mTup, mLst, mArgs, mCall, mFn, mDGet, mAsg, mRet, mNext, mRaise, mDrop, mIsi, bindT, setAll, startM, List.map_cons, List.map_nil, List.length_cons, List.length_nil, List.replicate, List.cons_append, List.nil_append, List.getElem?_cons_zero, List.getElem?_cons_succ, List.set_cons_succ, List.set_cons_zero, Nat.zero_add, Nat.reduceAdd, Nat.reduceSub, fII, fIIc, fLt, fLe, fGt, fGe, fSub, fMul, fDiv, fMod, fPow, fAdd_int, fLen, items, if_true, List.reverse_cons, List.reverse_nil, fEq_int, fNe_int, fEq_str, fNe_str, List.length_map, mFor, miEnum, miSeq, miRg1, miRg2, mLc, wipeM, mYes, mIsN, mNotN, mMeth, mNeg, mSl, mPart, mBrk, fI1, fI2, fIx_c1, fIx_c2, fIx_c3]
    refine fTuple_of (xs := ys.map Cell.w) (by simp only [items, m1]) ?_
    refine (g.mono (m := n) (by omega)).close fun M8 h8 => ?_
    have hp : (W.tup [isW votes, .int c.size, .tup (ys.map Cell.w), isW c.bank]) = (c.put ys).w := by rw [← hcv]; rfl
    rw [hp]
    have st := filter_isS y1
    refine k (c.put ys) M8 ⟨put_fit hc.fit yl y2, by show ys.length ≤ 200; omega, by show (ys.filter Cell.isS).length ≤ 20; omega⟩ (by show (ys.filter Cell.isS).length ≤ 6; omega) h8
theorem L_mk_code (hs : Lv M s (n + 730)) (k : ∀ c M2, Gc c → Af M s n M2 → R c.w M2) : sp__law_mk_code q RX [.ref s] M R := by
  rw [un__law_mk_code]
  simp only [mDef, mSeq, mIfS, mVal, mNot, mAnd, mOr, mAndV, mOrV, mNotV, mIf, mOp, mChain, mVar, mC, mTup, mLst, mArgs, mCall, mFn, mDGet, mAsg, mRet, mNext, mRaise, mDrop, mIsi, bindT, setAll, startM, List.map_cons, List.map_nil, List.length_cons, List.length_nil, List.replicate, List.cons_append, List.nil_append, List.getElem?_cons_zero, List.getElem?_cons_succ, List.set_cons_succ, List.set_cons_zero, Nat.zero_add, Nat.reduceAdd, Nat.reduceSub, fII, fIIc, fLt, fLe, fGt, fGe, fSub, fMul, fDiv, fMod, fPow, fAdd_int, fLen, items, if_true, List.reverse_cons, List.reverse_nil, fEq_int, fNe_int, fEq_str, fNe_str, List.length_map, mFor, miEnum, miSeq, miRg1, miRg2, mLc, wipeM, mYes, mIsN, mNotN, mMeth, mNeg, mSl, mPart, mBrk, fI1, fI2]
  refine L_draw (n := n + 729) hs (by decide) (by decide) fun way M2 w0 w1 hA => ?_
  have g := hs.go.af hA
  by_cases hw0 : way = 0
  · refine iteY (decide_eq_true hw0) ?_
    refine L_mk_any (n := n) (g.mono (by omega)).lv fun c M3 hc hA => ?_
    exact (g.af hA).close fun M4 h4 => k c M4 hc h4
  · refine iteN (by rw [decide_eq_true_eq]; exact hw0) ?_
    refine L_votesG (n := n + 718) g.lv fun vs M3 hv hA => ?_
    have g := g.af hA
    refine L_mk_sure (n := n + 16) hv g.lv fun c M4 hc hst hA => ?_
    have g := g.af hA
    by_cases hw1 : way = 1
    · refine iteY (decide_eq_true hw1) ?_
      refine L_mk_bent (n := n) hc (by omega) (g.mono (by omega)).lv fun c M5 hc hA => ?_
      exact (g.af hA).close fun M6 h6 => k c M6 hc h6
    · refine iteN (by rw [decide_eq_true_eq]; exact hw1) ?_
      exact (g.mono (m := n) (by omega)).close fun M6 h6 => k c M6 hc h6
end
end K75


set_option Elab.async false
set_option linter.all false
set_option maxRecDepth 100000
set_option maxHeartbeats 8000000
namespace K75
open PySem PySem.Spec PyProof.Rows L2 ML
/-! # the law -/
theorem rgW_at {a b : Int} {i : Nat} {w : W} (h : (rgW a b)[i]? = some w) : w = .int (a + (i : Nat)) ∧ i < (b - a).toNat := by
  unfold rgW at h
  obtain ⟨j, hj, rfl⟩ := map_inv h
  have hi := (List.getElem?_eq_some_iff.mp hj).1
  rw [List.length_range] at hi
  rw [List.getElem?_range hi] at hj
  cases hj
  exact ⟨rfl, hi⟩
theorem rgW_len {a b : Int} : (rgW a b).length = (b - a).toNat := by unfold rgW; rw [List.length_map, List.length_range]
section
variable {q : Ads} {RX : MX} {M : Mh} {R : MK}
theorem L_law {ns : List Int} (hn : ns.length ≤ 63) (un : ∀ b m, M b ≠ some (.drw m)) (k : R (.bl true) M) : sp_law q RX [.lsv (ns.map W.int)] M R := by
  rw [un_law]
  simp only [mDef, mSeq, mIfS, mVal, mNot, mAnd, mOr, mAndV, mOrV, mNotV, mIf, mOp, mChain, mVar, mC, mTup, mLst, mArgs, mCall, mFn, mDGet, mAsg, mRet, mNext, mRaise, mDrop, mIsi, bindT, setAll, startM, List.map_cons, List.map_nil, List.length_cons, List.length_nil, List.replicate, List.cons_append, List.nil_append, List.getElem?_cons_zero, List.getElem?_cons_succ, List.set_cons_succ, List.set_cons_zero, Nat.zero_add, Nat.reduceAdd, Nat.reduceSub, fII, fIIc, fLt, fLe, fGt, fGe, fSub, fMul, fDiv, fMod, fPow, fAdd_int, fLen, items, if_true, List.reverse_cons, List.reverse_nil, fEq_int, fNe_int, fEq_str, fNe_str, List.length_map, mFor, miEnum, miSeq, miRg1, miRg2, mLc, wipeM, mYes, mIsN, mNotN, mMeth, mNeg, mSl, mPart, mBrk, fI1, fI2]
  refine ⟨⟨ns, rfl, hn⟩, un, fun s hs0 => ?_⟩
  have lv0 : Lv (updM M s (.drw 1000000000000)) s 3000 := ⟨1000000000000, by decide, updM_same⟩
  refine ⟨by decide, ?_⟩
  refine forL_ind (fun i e M' => Go (updM M s (.drw 1000000000000)) s (3000 - 1000 * i) M' ∧ ∃ x0 a b c d e6 f, e = [x0, some (.ref s), a, b, c, d, e6, f]) _ 0 _ _ ⟨lv0.go, _, none, none, none, none, none, none, rfl⟩ ?_ ?_
  · rintro i w e M' kk hw ⟨g, x0, a, b, c, d, e6, f, rfl⟩ hk
    obtain ⟨rfl, hi⟩ := rgW_at hw
    have hi : i < 3 := hi
    rw [Nat.zero_add] at g hk
    refine ⟨trivial, _, rfl, ?_⟩
    simp only [mDef, mSeq, mIfS, mVal, mNot, mAnd, mOr, mAndV, mOrV, mNotV, mIf, mOp, mChain, mVar, mC, mTup, mLst, mArgs, mCall, mFn, mDGet, mAsg, mRet, mNext, mRaise, mDrop, mIsi, bindT, setAll, startM, List.map_cons, List.map_nil, List.length_cons, List.length_nil, List.replicate, List.cons_append, List.nil_append, List.getElem?_cons_zero, List.getElem?_cons_succ, List.set_cons_succ, List.set_cons_zero, Nat.zero_add, Nat.reduceAdd, Nat.reduceSub, fII, fIIc, fLt, fLe, fGt, fGe, fSub, fMul, fDiv, fMod, fPow, fAdd_int, fLen, items, if_true, List.reverse_cons, List.reverse_nil, fEq_int, fNe_int, fEq_str, fNe_str, List.length_map, mFor, miEnum, miSeq, miRg1, miRg2, mLc, wipeM, mYes, mIsN, mNotN, mMeth, mNeg, mSl, mPart, mBrk, fI1, fI2]
    refine L_mk_code (n := 3000 - 1000 * (i + 1) + 200) (g.mono (by omega)).lv fun c M2 hc hA => ?_
    have g := g.af hA
    have hcd := hc.cd
    have hl := hc.len
    have hp0 := hcd.pos
    refine L_lists_right hcd (iteN (by decide) ?_)
    refine L_exchanges_right (n := 3000 - 1000 * (i + 1) + 188) hcd g.lv fun M3 hA => ?_
    have g := g.af hA
    refine iteN (by decide) ?_
    simp only [mDef, mSeq, mIfS, mVal, mNot, mAnd, mOr, mAndV, mOrV, mNotV, mIf, mOp, mChain, mVar, mC, mTup, mLst, mArgs, mCall, mFn, mDGet, mAsg, mRet, mNext, mRaise, mDrop, mIsi, bindT, setAll, startM, List.map_cons, List.map_nil, List.length_cons, List.length_nil, List.replicate, List.cons_append, List.nil_append, List.getElem?_cons_zero, List.getElem?_cons_succ, List.set_cons_succ, List.set_cons_zero, Nat.zero_add, Nat.reduceAdd, Nat.reduceSub, fII, fIIc, fLt, fLe, fGt, fGe, fSub, fMul, fDiv, fMod, fPow, fAdd_int, fLen, items, if_true, List.reverse_cons, List.reverse_nil, fEq_int, fNe_int, fEq_str, fNe_str, List.length_map, mFor, miEnum, miSeq, miRg1, miRg2, mLc, wipeM, mYes, mIsN, mNotN, mMeth, mNeg, mSl, mPart, mBrk, fI1, fI2, fIx_c2, items_cs]
    have lm : (c.cells.map Cell.w).length = c.cells.length := List.length_map _
    refine ⟨⟨by omega, by omega, by omega, by omega⟩, by rw [rgW_len, sizeLine_eq]; omega, ?_⟩
    refine lcL_ind (fun j acc M4 => ∃ is : List Int, acc = is.map W.int ∧ (∀ v ∈ is, ∀ a ∈ spots c.cells, W.int v ≠ .int (a : Nat)) ∧ (0 < j → 0 < is.length) ∧ is.length ≤ j ∧ Go (updM M s (.drw 1000000000000)) s (3000 - 1000 * (i + 1) + 188) M4) _ 0 _ _ ⟨[], rfl, by simp, fun h => absurd h (by decide), Nat.le_refl _, g⟩ ?_ ?_
    · rintro j w acc M4 k2 hw ⟨is, rfl, h1, h2, h3, g⟩ hk2
      obtain ⟨rfl, hj⟩ := rgW_at hw
      rw [Nat.zero_add] at h2 h3 hk2
      refine ⟨trivial, _, rfl, ?_⟩
      simp only [mDef, mSeq, mIfS, mVal, mNot, mAnd, mOr, mAndV, mOrV, mNotV, mIf, mOp, mChain, mVar, mC, mTup, mLst, mArgs, mCall, mFn, mDGet, mAsg, mRet, mNext, mRaise, mDrop, mIsi, bindT, setAll, startM, List.map_cons, List.map_nil, List.length_cons, List.length_nil, List.replicate, List.cons_append, List.nil_append, List.getElem?_cons_zero, List.getElem?_cons_succ, List.set_cons_succ, List.set_cons_zero, Nat.zero_add, Nat.reduceAdd, Nat.reduceSub, fII, fIIc, fLt, fLe, fGt, fGe, fSub, fMul, fDiv, fMod, fPow, fAdd_int, fLen, items, if_true, List.reverse_cons, List.reverse_nil, fEq_int, fNe_int, fEq_str, fNe_str, List.length_map, mFor, miEnum, miSeq, miRg1, miRg2, mLc, wipeM, mYes, mIsN, mNotN, mMeth, mNeg, mSl, mPart, mBrk, fI1, fI2, fIx_c2]
      refine L_mk_swaps (by omega) fun p hp => ?_
      refine fNotIn_of (inW_spots updM_same) ?_
      by_cases hin : ∃ a ∈ spots c.cells, (-1 : Int) + (j : Nat) = (a : Nat)
      · rw [decide_eq_true hin]
        refine iteN (by decide) (hk2 _ _ ⟨is, rfl, h1, fun _ => ?_, by omega, g.new hp⟩)
        obtain ⟨a, _, e⟩ := hin
        exact h2 (by omega)
      · rw [decide_eq_false hin]
        refine iteY (by decide) (hk2 _ _ ⟨is ++ [(-1 : Int) + (j : Nat)], by rw [List.map_append]; rfl, fun v hv a ha => ?_, fun _ => by simp, by simp; omega, g.new hp⟩)
        rcases List.mem_append.mp hv with z | z
        · exact h1 v z a ha
        · rw [List.mem_singleton] at z
          subst z
          intro e
          simp only [W.int.injEq] at e
          exact hin ⟨a, ha, e⟩
    · rintro acc M4 ⟨is, rfl, h1, h2, h3, g⟩
      rw [Nat.zero_add, rgW_len] at h2 h3
      have h2 := h2 (by omega)
      refine ⟨trivial, fun fp hfp => ?_⟩
      have g := g.new (o := .lst (is.map W.int)) hfp
      refine L_pick (n := 3000 - 1000 * (i + 1) + 187) updM_same (by rw [List.length_map]; exact h2) (by rw [List.length_map]; omega) g.lv fun w M5 hw hA => ?_
      have g := g.af hA
      obtain ⟨v, hv, rfl⟩ := List.mem_map.mp hw
      have hv1 := h1 v hv
      refine ⟨⟨by decide, by decide, by decide⟩, fun p hp => ?_⟩
      have g := g.new (o := .lst [.int v, .non, .str "0", .int (10 ^ Int.toNat 9)]) hp
      have sle := (spots_le (cs := c.cells) (by omega)).2
      have e9 : (10 : Int) ^ Int.toNat 9 = 1000000000 := by decide
      simp only [updM_same]
      refine forL_ind (fun j e M' => Go (updM M s (.drw 1000000000000)) s (3000 - 1000 * (i + 1) + 187) M' ∧ M' p = some (.lst [.int v, .non, .str "0", .int (10 ^ Int.toNat 9)]) ∧ ∃ x0 a b d e6 f, e = [x0, some (.ref s), a, some c.w, b, d, e6, f]) _ 0 _ _ ⟨g, updM_same, _, _, _, _, _, _, rfl⟩ ?_ ?_
      · rintro j w e M' k2 hw ⟨g, m1, x0, a, b, d, e6, f, rfl⟩ hk2
        refine ⟨m1, _, rfl, ?_⟩
        have hm := List.mem_of_getElem? hw
        simp only [mDef, mSeq, mIfS, mVal, mNot, mAnd, mOr, mAndV, mOrV, mNotV, mIf, mOp, mChain, mVar, mC, mTup, mLst, mArgs, mCall, mFn, mDGet, mAsg, mRet, mNext, mRaise, mDrop, mIsi, bindT, setAll, startM, List.map_cons, List.map_nil, List.length_cons, List.length_nil, List.replicate, List.cons_append, List.nil_append, List.getElem?_cons_zero, List.getElem?_cons_succ, List.set_cons_succ, List.set_cons_zero, Nat.zero_add, Nat.reduceAdd, Nat.reduceSub, fII, fIIc, fLt, fLe, fGt, fGe, fSub, fMul, fDiv, fMod, fPow, fAdd_int, fLen, items, if_true, List.reverse_cons, List.reverse_nil, fEq_int, fNe_int, fEq_str, fNe_str, List.length_map, mFor, miEnum, miSeq, miRg1, miRg2, mLc, wipeM, mYes, mIsN, mNotN, mMeth, mNeg, mSl, mPart, mBrk, fI1, fI2, mIsE, mCaught]
        have key : (tyW M' w).isSome = true ∧ ∀ a ∈ spots c.cells, w ≠ .int (a : Nat) := by
          simp only [List.mem_cons, List.not_mem_nil, or_false] at hm
          rcases hm with rfl | rfl | rfl | rfl
          · exact ⟨rfl, hv1⟩
          · exact ⟨rfl, fun a _ z => by cases z⟩
          · exact ⟨rfl, fun a _ z => by cases z⟩
          · refine ⟨rfl, fun a ha z => ?_⟩
            rw [e9] at z
            have := sle a ha
            simp only [W.int.injEq] at z
            omega
        refine X_exchanged hcd key.1 key.2 ⟨.inr (.inr (.inl rfl)), fun ex hex => ⟨updM_same, iteN (by decide) (hk2 _ _ ⟨g.new hex, by rw [updM_ne (ne_of_noneM m1 hex)]; exact m1, _, _, _, _, _, _, rfl⟩)⟩⟩
      · rintro e M' ⟨g, m1, x0, a, b, d, e6, f, rfl⟩
        refine ⟨m1, ?_⟩
        simp only [mDef, mSeq, mIfS, mVal, mNot, mAnd, mOr, mAndV, mOrV, mNotV, mIf, mOp, mChain, mVar, mC, mTup, mLst, mArgs, mCall, mFn, mDGet, mAsg, mRet, mNext, mRaise, mDrop, mIsi, bindT, setAll, startM, List.map_cons, List.map_nil, List.length_cons, List.length_nil, List.replicate, List.cons_append, List.nil_append, List.getElem?_cons_zero, List.getElem?_cons_succ, List.set_cons_succ, List.set_cons_zero, Nat.zero_add, Nat.reduceAdd, Nat.reduceSub, fII, fIIc, fLt, fLe, fGt, fGe, fSub, fMul, fDiv, fMod, fPow, fAdd_int, fLen, items, if_true, List.reverse_cons, List.reverse_nil, fEq_int, fNe_int, fEq_str, fNe_str, List.length_map, mFor, miEnum, miSeq, miRg1, miRg2, mLc, wipeM, mYes, mIsN, mNotN, mMeth, mNeg, mSl, mPart, mBrk, fI1, fI2, fIx_c2, items_cs]
        intro p2 hp2
        have g := g.new (o := .lst [.int (-1), .int ((c.cells.map Cell.w).length : Nat), .non, .bl true]) hp2
        refine forL_ind (fun j e M' => Go (updM M s (.drw 1000000000000)) s (3000 - 1000 * (i + 1) + 187) M' ∧ M' p2 = some (.lst [.int (-1), .int ((c.cells.map Cell.w).length : Nat), .non, .bl true]) ∧ ∃ x0 a b d e6 f, e = [x0, some (.ref s), a, some c.w, b, d, e6, f]) _ 0 _ _ ⟨g, updM_same, _, _, _, _, _, _, rfl⟩ ?_ ?_
        · rintro j w e M' k2 hw ⟨g, m1, x0, a, b, d, e6, f, rfl⟩ hk2
          refine ⟨m1, _, rfl, ?_⟩
          have hm := List.mem_of_getElem? hw
          simp only [mDef, mSeq, mIfS, mVal, mNot, mAnd, mOr, mAndV, mOrV, mNotV, mIf, mOp, mChain, mVar, mC, mTup, mLst, mArgs, mCall, mFn, mDGet, mAsg, mRet, mNext, mRaise, mDrop, mIsi, bindT, setAll, startM, List.map_cons, List.map_nil, List.length_cons, List.length_nil, List.replicate, List.cons_append, List.nil_append, List.getElem?_cons_zero, List.getElem?_cons_succ, List.set_cons_succ, List.set_cons_zero, Nat.zero_add, Nat.reduceAdd, Nat.reduceSub, fII, fIIc, fLt, fLe, fGt, fGe, fSub, fMul, fDiv, fMod, fPow, fAdd_int, fLen, items, if_true, List.reverse_cons, List.reverse_nil, fEq_int, fNe_int, fEq_str, fNe_str, List.length_map, mFor, miEnum, miSeq, miRg1, miRg2, mLc, wipeM, mYes, mIsN, mNotN, mMeth, mNeg, mSl, mPart, mBrk, fI1, fI2, mIsE, mCaught]
          have key : (tyW M' w).isSome = true ∧ fromB w 0 ((c.cells.length : Int) - 1) = false := by
            simp only [List.mem_cons, List.not_mem_nil, or_false] at hm
            rcases hm with rfl | rfl | rfl | rfl
            · exact ⟨rfl, by unfold fromB; simp⟩
            · exact ⟨rfl, by unfold fromB; simp; omega⟩
            · exact ⟨rfl, rfl⟩
            · exact ⟨rfl, rfl⟩
          refine X_moved_at hcd key.1 key.2 ⟨.inr (.inr (.inl rfl)), fun ex hex => ⟨updM_same, iteN (by decide) (hk2 _ _ ⟨g.new hex, by rw [updM_ne (ne_of_noneM m1 hex)]; exact m1, _, _, _, _, _, _, rfl⟩)⟩⟩
        · rintro e M' ⟨g, m1, x0, a, b, d, e6, f, rfl⟩
          refine ⟨m1, ?_⟩
          simp only [mDef, mSeq, mIfS, mVal, mNot, mAnd, mOr, mAndV, mOrV, mNotV, mIf, mOp, mChain, mVar, mC, mTup, mLst, mArgs, mCall, mFn, mDGet, mAsg, mRet, mNext, mRaise, mDrop, mIsi, bindT, setAll, startM, List.map_cons, List.map_nil, List.length_cons, List.length_nil, List.replicate, List.cons_append, List.nil_append, List.getElem?_cons_zero, List.getElem?_cons_succ, List.set_cons_succ, List.set_cons_zero, Nat.zero_add, Nat.reduceAdd, Nat.reduceSub, fII, fIIc, fLt, fLe, fGt, fGe, fSub, fMul, fDiv, fMod, fPow, fAdd_int, fLen, items, if_true, List.reverse_cons, List.reverse_nil, fEq_int, fNe_int, fEq_str, fNe_str, List.length_map, mFor, miEnum, miSeq, miRg1, miRg2, mLc, wipeM, mYes, mIsN, mNotN, mMeth, mNeg, mSl, mPart, mBrk, fI1, fI2, fIx_c2, items_cs]
          refine L_refused (n := 3000 - 1000 * (i + 1) + 185) hcd g.lv fun M6 hA => ?_
          have g := g.af hA
          refine iteN (by decide) ?_
          simp only [fSl_code, fList_code]
          intro l hl0 p3 hp3
          have lp : l ≠ p3 := ne_of_noneM updM_same hp3
          have g := (g.new (o := .lst [isW c.votes, .int c.size, csW c.cells, isW c.bank]) hl0).new (o := .lst [.non, .int 5, .tup [isW c.votes, .int c.size, csW c.cells], .ref l]) hp3
          refine L_odd (c := c) (n := 3000 - 1000 * (i + 1) + 184) updM_same (by rw [updM_ne lp, updM_same]) g.lv fun v M7 hv hA => ?_
          have g := g.af hA
          simp only [mCaught, mDef, mSeq, mIfS, mVal, mNot, mAnd, mOr, mAndV, mOrV, mNotV, mIf, mOp, mChain, mVar, mC, mTup, mLst, mArgs, mCall, mFn, mDGet, mAsg, mRet, mNext, mRaise, mDrop, mIsi, bindT, setAll, startM, List.map_cons, List.map_nil, List.length_cons, List.length_nil, List.replicate, List.cons_append, List.nil_append, List.getElem?_cons_zero, List.getElem?_cons_succ, List.set_cons_succ, List.set_cons_zero, Nat.zero_add, Nat.reduceAdd, Nat.reduceSub, fII, fIIc, fLt, fLe, fGt, fGe, fSub, fMul, fDiv, fMod, fPow, fAdd_int, fLen, items, if_true, List.reverse_cons, List.reverse_nil, fEq_int, fNe_int, fEq_str, fNe_str, List.length_map, mFor, miEnum, miSeq, miRg1, miRg2, mLc, wipeM, mYes, mIsN, mNotN, mMeth, mNeg, mSl, mPart, mBrk, fI1, fI2]
          have nup : ∀ {M M2 : Mh} {v : W}, NoC M v → (∀ a xs, M a = some (.lst xs) → M2 a = some (.lst xs)) → NoC M2 v := fun h up => by
            rcases h with h | h | h | ⟨p, xs, h1, h2⟩
            · exact .inl h
            · exact .inr (.inl h)
            · exact .inr (.inr (.inl h))
            · exact .inr (.inr (.inr ⟨p, xs, h1, up _ _ h2⟩))
          have bc : q.ok q.BadCode := .inl rfl
          refine X_labels_no hv ⟨bc, fun a1 ha1 => ?_⟩
          have hv := nup hv (M2 := updM M7 a1 (.exc (.ref q.BadCode))) fun a xs h => by rw [updM_ne (ne_of_noneM h ha1)]; exact h
          have g := g.new (o := .exc (.ref q.BadCode)) ha1
          have x1 : updM M7 a1 (.exc (.ref q.BadCode)) a1 = some (.exc (.ref q.BadCode)) := updM_same
          revert hv g x1
          generalize updM M7 a1 (.exc (.ref q.BadCode)) = M8
          intro hv g x1
          refine X_stretches_no hv ⟨bc, fun a2 ha2 => ?_⟩
          have hv := nup hv (M2 := updM M8 a2 (.exc (.ref q.BadCode))) fun a xs h => by rw [updM_ne (ne_of_noneM h ha2)]; exact h
          have g := g.new (o := .exc (.ref q.BadCode)) ha2
          have x1 : updM M8 a2 (.exc (.ref q.BadCode)) a1 = some (.exc (.ref q.BadCode)) := by rw [updM_ne (ne_of_noneM x1 ha2)]; exact x1
          have x2 : updM M8 a2 (.exc (.ref q.BadCode)) a2 = some (.exc (.ref q.BadCode)) := updM_same
          revert hv g x1 x2
          generalize updM M8 a2 (.exc (.ref q.BadCode)) = M9
          intro hv g x1 x2
          refine X_exchangeable_no hv ⟨bc, fun a3 ha3 => ?_⟩
          have hv := nup hv (M2 := updM M9 a3 (.exc (.ref q.BadCode))) fun a xs h => by rw [updM_ne (ne_of_noneM h ha3)]; exact h
          have g := g.new (o := .exc (.ref q.BadCode)) ha3
          have x1 : updM M9 a3 (.exc (.ref q.BadCode)) a1 = some (.exc (.ref q.BadCode)) := by rw [updM_ne (ne_of_noneM x1 ha3)]; exact x1
          have x2 : updM M9 a3 (.exc (.ref q.BadCode)) a2 = some (.exc (.ref q.BadCode)) := by rw [updM_ne (ne_of_noneM x2 ha3)]; exact x2
          have x3 : updM M9 a3 (.exc (.ref q.BadCode)) a3 = some (.exc (.ref q.BadCode)) := updM_same
          revert hv g x1 x2 x3
          generalize updM M9 a3 (.exc (.ref q.BadCode)) = M10
          intro hv g x1 x2 x3
          refine X_exchanged_no hv ⟨bc, fun a4 ha4 => ?_⟩
          have g := g.new (o := .exc (.ref q.BadCode)) ha4
          have x1 : updM M10 a4 (.exc (.ref q.BadCode)) a1 = some (.exc (.ref q.BadCode)) := by rw [updM_ne (ne_of_noneM x1 ha4)]; exact x1
          have x2 : updM M10 a4 (.exc (.ref q.BadCode)) a2 = some (.exc (.ref q.BadCode)) := by rw [updM_ne (ne_of_noneM x2 ha4)]; exact x2
          have x3 : updM M10 a4 (.exc (.ref q.BadCode)) a3 = some (.exc (.ref q.BadCode)) := by rw [updM_ne (ne_of_noneM x3 ha4)]; exact x3
          have x4 : updM M10 a4 (.exc (.ref q.BadCode)) a4 = some (.exc (.ref q.BadCode)) := updM_same
          revert g x1 x2 x3 x4
          generalize updM M10 a4 (.exc (.ref q.BadCode)) = M11
          intro g x1 x2 x3 x4 p4 hp4
          have g := g.new (o := .lst [.ref a1, .ref a2, .ref a3, .ref a4]) hp4
          have up : ∀ {a : Addr}, M11 a = some (.exc (.ref q.BadCode)) → updM M11 p4 (.lst [.ref a1, .ref a2, .ref a3, .ref a4]) a = some (.exc (.ref q.BadCode)) := fun h => by rw [updM_ne (ne_of_noneM h hp4)]; exact h
          refine forL_ind (fun j e M' => Go (updM M s (.drw 1000000000000)) s (3000 - 1000 * (i + 1)) M' ∧ M' p4 = some (.lst [.ref a1, .ref a2, .ref a3, .ref a4]) ∧ (∀ a ∈ [a1, a2, a3, a4], M' a = some (.exc (.ref q.BadCode))) ∧ ∃ x0 a b d e6 f, e = [x0, some (.ref s), a, some c.w, b, d, e6, f]) _ 0 _ _ ⟨g.mono (by omega), updM_same, fun a ha => ?_, _, _, _, _, _, _, rfl⟩ ?_ ?_
          · simp only [List.mem_cons, List.not_mem_nil, or_false] at ha
            rcases ha with rfl | rfl | rfl | rfl
            · exact up x1
            · exact up x2
            · exact up x3
            · exact up x4
          · rintro j w e M' k2 hw ⟨g, m1, m2, x0, a, b, d, e6, f, rfl⟩ hk2
            refine ⟨m1, _, rfl, ?_⟩
            obtain ⟨aa, haa, rfl⟩ : ∃ aa ∈ [a1, a2, a3, a4], w = .ref aa := by
              have := List.mem_of_getElem? hw
              simp only [List.mem_cons, List.not_mem_nil, or_false] at this
              rcases this with rfl | rfl | rfl | rfl <;> exact ⟨_, by simp, rfl⟩
            simp only [mDef, mSeq, mIfS, mVal, mNot, mAnd, mOr, mAndV, mOrV, mNotV, mIf, mOp, mChain, mVar, mC, mTup, mLst, mArgs, mCall, mFn, mDGet, mAsg, mRet, mNext, mRaise, mDrop, mIsi, bindT, setAll, startM, List.map_cons, List.map_nil, List.length_cons, List.length_nil, List.replicate, List.cons_append, List.nil_append, List.getElem?_cons_zero, List.getElem?_cons_succ, List.set_cons_succ, List.set_cons_zero, Nat.zero_add, Nat.reduceAdd, Nat.reduceSub, fII, fIIc, fLt, fLe, fGt, fGe, fSub, fMul, fDiv, fMod, fPow, fAdd_int, fLen, items, if_true, List.reverse_cons, List.reverse_nil, fEq_int, fNe_int, fEq_str, fNe_str, List.length_map, mFor, miEnum, miSeq, miRg1, miRg2, mLc, wipeM, mYes, mIsN, mNotN, mMeth, mNeg, mSl, mPart, mBrk, fI1, fI2, mIsE]
            exact ⟨m2 aa haa, iteN (by decide) (hk2 _ _ ⟨g, m1, m2, _, _, _, _, _, _, rfl⟩)⟩
          · rintro e M' ⟨g, m1, m2, x0, a, b, d, e6, f, rfl⟩
            exact ⟨m1, hk _ _ ⟨g, _, _, _, _, _, _, _, rfl⟩⟩
  · rintro e M' ⟨g, x0, a, b, c, d, e6, f, rfl⟩
    refine ⟨trivial, ?_⟩
    simp only [mDef, mSeq, mIfS, mVal, mNot, mAnd, mOr, mAndV, mOrV, mNotV, mIf, mOp, mChain, mVar, mC, mTup, mLst, mArgs, mCall, mFn, mDGet, mAsg, mRet, mNext, mRaise, mDrop, mIsi, bindT, setAll, startM, List.map_cons, List.map_nil, List.length_cons, List.length_nil, List.replicate, List.cons_append, List.nil_append, List.getElem?_cons_zero, List.getElem?_cons_succ, List.set_cons_succ, List.set_cons_zero, Nat.zero_add, Nat.reduceAdd, Nat.reduceSub, fII, fIIc, fLt, fLe, fGt, fGe, fSub, fMul, fDiv, fMod, fPow, fAdd_int, fLen, items, if_true, List.reverse_cons, List.reverse_nil, fEq_int, fNe_int, fEq_str, fNe_str, List.length_map, mFor, miEnum, miSeq, miRg1, miRg2, mLc, wipeM, mYes, mIsN, mNotN, mMeth, mNeg, mSl, mPart, mBrk, fI1, fI2]
    have : Sub M M' := by
      obtain ⟨m, _, h⟩ := g
      rw [updM_upd] at h
      exact sub_of h hs0
    exact fg_sub this k
end
end K75


set_option Elab.async false
set_option linter.all false
set_option maxRecDepth 100000
set_option maxHeartbeats 8000000
namespace ML
open PySem PySem.Spec PyProof.Rows L2
/-! ### the end: a law with lambda tables, called as it is called from outside -/
/-- what is tracked at the beginning: the tables, and the script's list where it is not locked -/
noncomputable def begH (K : PySem.W.Frag) (tb : List Addr) (a : Addr) (vs : List Value) (ns : List Int) : Hp := fun b =>
  if b ∈ tb then some (.tbl #[]) else if b = a ∧ K.lookup a = none then some (.frz { cls := .type "list", data := .seq vs.toArray } (.lst (ns.map V.int))) else none
section
variable {K : PySem.W.Frag} {tb : List Addr} {a : Addr} {vs : List Value} {ns : List Int}
theorem begH_tb {b : Addr} (h : b ∈ tb) : begH K tb a vs ns b = some (.tbl #[]) := if_pos h
theorem begH_cases (b : Addr) : (b ∈ tb ∧ begH K tb a vs ns b = some (.tbl #[])) ∨ (b = a ∧ b ∉ tb ∧ K.lookup a = none ∧ begH K tb a vs ns b = some (.frz { cls := .type "list", data := .seq vs.toArray } (.lst (ns.map V.int)))) ∨ (b ∉ tb ∧ begH K tb a vs ns b = none) := by
  unfold begH
  by_cases h : b ∈ tb
  · exact .inl ⟨h, if_pos h⟩
  · by_cases e : b = a ∧ K.lookup a = none
    · exact .inr (.inl ⟨e.1, h, e.2, by rw [if_neg h, if_pos e]⟩)
    · exact .inr (.inr ⟨h, by rw [if_neg h, if_neg e]⟩)
end
theorem law_callG {P : Program} {w : World} {K : PySem.W.Frag} {mg mb : Str → Option Value} {k : Nat} {fa a : Addr} {T : List (Addr × Str)} {cd : Addr → Addr} {fd : FuncData} {x : Str} {sp : MSp} {st : Shared} {vs : List Value} {ns : List Int}
    (hK : K.In st.heap) (hG : st.heap.Ns mainGlobals mg) (hB : st.heap.Ns builtinsNs mb) (hBB : ∀ y : Str, y ≠ "__name__" → mb y = bootBuiltins y) (hL : st.heap.NoLimit) (hgen : st.gens = #[])
    (tE : ∀ t ∈ T, st.heap.get? t.1 = some { cls := .none, data := .fields #[] }) (tK : ∀ t ∈ T, K.lookup t.1 = none) (tC : ∀ t ∈ T, PySem.W.CodeHd st.heap (cd t.1) t.1)
    (hM : ∃ (m : Addr) (o : Obj), mg "__builtins__" = some (.ref m) ∧ m ≠ builtinsNs ∧ st.heap.get? m = some o ∧ o.cls = .type "module" ∧ o.dict = some builtinsNs ∧ o.data = .plain)
    (hA : st.heap.get? a = some { cls := .type "list", data := .seq vs.toArray }) (hi : IntsAre vs ns) (hlen : ns.length ≤ sizeLine) (room : Room k callerA)
    (F : ∀ base : Heap, K.In base → base.Ns mainGlobals mg → (∀ t ∈ T, LamX.TabB base mg (cd t.1) t.1) → FnG P w K mg base T true k fa fd [x] 1 sp)
    (bind : ∀ (s : Shared) (u : Value), BindsTo s fd ⟨[u], []⟩ [(x, u)])
    (hsp : ∀ (RX : MX) (M : Mh) (R : MK), (∀ b m, M b ≠ some (.drw m)) → R (.bl true) M → sp RX [.lsv (ns.map W.int)] M R) :
    codeAny (model P w) callerA (.call (.ref fa) ⟨[.ref a], []⟩) (fun r s' => r = .ok (.ret (.bool true)) ∧ OldK st.heap s'.heap ∧ s'.os = st.os ∧ AllBare s'.gens) st := by
  have rv := vals_ints hi
  have len := hi.length
  generalize hH : begH K (T.map (·.1)) a vs ns = H
  have cas := begH_cases (K := K) (tb := T.map (·.1)) (a := a) (vs := vs) (ns := ns)
  rw [hH] at cas
  have tabE : ∀ b ∈ T.map (·.1), st.heap.get? b = some { cls := .none, data := .fields #[] } := fun b hb => by
    obtain ⟨t, ht, rfl⟩ := List.mem_map.mp hb
    exact tE t ht
  have tabK : ∀ b ∈ T.map (·.1), K.lookup b = none := fun b hb => by
    obtain ⟨t, ht, rfl⟩ := List.mem_map.mp hb
    exact tK t ht
  have aT : a ∉ T.map (·.1) := fun z => by
    have := tabE a z
    rw [hA] at this
    exact nomatch (congrArg Obj.data (Option.some.inj this))
  -- what is not tracked
  have free : ∀ {b : Addr} {o : Obj}, st.heap.get? b = some o → (∀ us n, o.data ≠ .seq us n) → o.data ≠ .fields #[] → H b = none := fun {b o} e h1 h2 => by
    rcases cas b with ⟨z, _⟩ | ⟨rfl, _⟩ | ⟨_, z⟩
    · rw [tabE b z] at e
      cases e
      exact absurd rfl h2
    · rw [hA] at e
      cases e
      exact absurd rfl (h1 _ _)
    · exact z
  have toB : ∀ {b : Addr} {o : Obj}, st.heap.get? b = some o → H b = none → (hidT st.heap H).get? b = some o := fun e n => hidT_get e n
  have dicts : ∀ {b : Addr} {m : Str → Option Value}, st.heap.Ns b m → (hidT st.heap H).Ns b m := fun {b m} ⟨o, es, ep, e, d, r⟩ =>
    ⟨o, es, ep, toB e (free e (fun us n z => by rw [d] at z; cases z) (fun z => by rw [d] at z; cases z)), d, r⟩
  have baseK : K.In (hidT st.heap H) := fun b o e => toB (hK b o e) (by
    rcases cas b with ⟨z, _⟩ | ⟨rfl, _, z, _⟩ | ⟨_, z⟩
    · rw [tabK b z] at e
      cases e
    · rw [z] at e
      cases e
    · exact z)
  have modB : L2.Mod K mg (hidT st.heap H) := ⟨baseK, dicts hG, ⟨mb, dicts hB, hBB⟩, let ⟨mc, h1, h2⟩ := hL; ⟨mc, dicts h1, h2⟩⟩
  have tabB : ∀ t ∈ T, LamX.TabB (hidT st.heap H) mg (cd t.1) t.1 := fun t ht => by
    have hP := tE t ht
    refine ⟨?_, ?_, fun z => ?_⟩
    · obtain ⟨o, us, f1, f2, f3, f4, f5, f6, f7, g1, g2, g3, g4, r⟩ := tC t ht
      refine ⟨o, us, f1, f2, f3, f4, f5, f6, f7, toB g1 (free g1 (fun us n z => by rw [g3] at z; cases z) fun z => ?_), g2, g3, g4, r⟩
      rw [g3] at z
      cases z
      simp at g4
    · obtain ⟨m, o, h1, h2, h3, h4, h5, h6⟩ := hM
      refine ⟨m, o, h1, h2, fun z => ?_, fun z => ?_, toB h3 (free h3 (fun us n z => by rw [h6] at z; cases z) (fun z => by rw [h6] at z; cases z)), h4, h5, h6⟩
      · obtain ⟨o', es, ep, e, d, _⟩ := hG
        rw [z, e] at h3
        cases h3
        rw [d] at h6
        cases h6
      · rw [z, hP] at h3
        cases h3
        cases h6
    · obtain ⟨o', es, ep, e, d, _⟩ := hG
      rw [z, hP] at e
      cases e
      cases d
  have hok : HOk P w H st.heap := fun b u hu => by
    rcases cas b with ⟨z, e⟩ | ⟨rfl, _, _, e⟩ | ⟨_, e⟩
    · rw [hu] at e
      cases e
      exact tabE b z
    · rw [hu] at e
      cases e
      exact ⟨hA, by rw [List.length_map]; exact hlen, vs, _, rv, hA⟩
    · rw [hu] at e
      cases e
  have e0 : Env0 P w K mg (hidT st.heap H) callerA [] st H := ⟨rfl, modB, fun b o e => of_hidT e, Nat.le_of_eq (hidT_size _ _), trivial, fun b hb => absurd (show b ∈ ([] : List Addr) from hb) List.not_mem_nil, hok, .of_eq hgen⟩
  have sq : SqF K H a (ns.map V.int) := by
    cases hl : K.lookup a with
    | none =>
      rcases cas a with ⟨z, _⟩ | ⟨_, _, _, e⟩ | ⟨_, e⟩
      · exact absurd z aT
      · exact .inl ⟨_, e⟩
      · rw [← hH] at e
        unfold begH at e
        rw [if_neg aT, if_pos ⟨rfl, hl⟩] at e
        cases e
    | some o =>
      have e := hK a o hl
      rw [hA] at e
      cases e
      exact .inr ⟨_, vs.toArray, _, hl, rfl, rfl, rfl, by rw [List.size_toArray, len]; exact hlen, by simpa using rv⟩
  have rel : Rel K T (fun _ => none) H := ⟨fun b o z => (nomatch z), fun t ht => ⟨#[], by rw [← hH]; exact begH_tb (List.mem_map.mpr ⟨t, ht, rfl⟩), trivial, fun pos cv z => (nomatch z)⟩⟩
  have reps : Reps K H [.lsv (ns.map W.int)] [.ref a] := Reps.cons (by unfold Rep; exact ⟨a, _, rfl, sq, Reps.ints⟩) Reps.nil
  have spec : LfSp K T 1 sp [.ref a] H (fun v _ => v = .bl true) fun _ _ _ => False :=
    ⟨fun _ _ => False, _, fun _ => none, fun u _ => u = .bl true, rfl, reps, rel, hsp _ _ _ (fun _ _ z => nomatch z) rfl, fun u M' v H' _ _ r q => by subst q; simpa only [Rep] using r, fun _ _ _ _ _ z => z⟩
  refine codeAny_mono ((F _ baseK (dicts hG) tabB).run callerA [] st H ⟨[.ref a], []⟩ [.ref a] [.ref a] _ _ room (fun _ => rfl) e0 (bind st (.ref a)) (.cons rfl .nil) spec) fun r s' h => ?_
  cases r with
  | error e =>
    obtain ⟨_, _, _, _, _, _, _, _, _, _, _, _, z⟩ := h
    exact z.elim
  | ok fl =>
    cases fl with
    | ret u =>
      obtain ⟨v, H', os, bare, un, hok', rl, rfl⟩ := h
      obtain rfl : u = Value.bool true := rl
      have grown : ∀ b ∈ T.map (·.1), ∃ more : Array Value, s'.heap.get? b = some { cls := .none, data := .fields (#[] ++ more) } := fun b hb => by
        obtain ⟨more, z⟩ := un.tbls b #[] (by rw [← hH]; exact begH_tb hb)
        exact ⟨more, hok' b _ z⟩
      have kept : ∀ b o, b ∉ T.map (·.1) → st.heap.get? b = some o → s'.heap.get? b = some o := fun b o nb e => by
        rcases cas b with ⟨z, _⟩ | ⟨rfl, _, _, z⟩ | ⟨_, z⟩
        · exact absurd z nb
        · obtain ⟨e2, _⟩ := hok' b _ (un.frzs b _ _ z)
          rw [hA] at e
          rw [e2]
          exact e
        · exact un.keep b o e z (fun y => absurd (show b ∈ ([] : List Addr) from y) List.not_mem_nil) List.not_mem_nil
      refine ⟨rfl, ⟨fun b o e => ?_, fun b o e => ?_⟩, os, bare⟩
      · by_cases hb : b ∈ T.map (·.1)
        · obtain ⟨more, hm⟩ := grown b hb
          obtain ⟨t, ht, rfl⟩ := List.mem_map.mp hb
          rw [tE t ht] at e
          cases e
          exact .inr (.inl ⟨((tC t ht).tab (tE t ht)).isCodeTable, rfl, #[], more, rfl, hm⟩)
        · exact .inl (kept b o hb e)
      · by_cases hb : b ∈ T.map (·.1)
        · obtain ⟨more, hm⟩ := grown b hb
          exact ⟨_, hm⟩
        · exact ⟨o, kept b o hb e⟩
    | next => exact False.elim h
    | brk => exact False.elim h
    | cont => exact False.elim h
end ML


set_option Elab.async false
set_option linter.all false
set_option maxRecDepth 100000
set_option maxHeartbeats 8000000
namespace K75
open PySem PySem.Spec PyProof.Rows L2 ML

/-! # what the written part holds -/
section
variable {K : PySem.W.Frag} {h : Heap} {mg : Str → Option Value}
/-- a def stands there -/
def DX (K : PySem.W.Frag) (x : Str) (st : Stmt) : Prop := ∃ (f : Addr) (oc : Value) (od : Option Addr) (kV doc pm : Value) (an : Option Addr) (cdv ct : Value) (osl : Array (Option Value)),
  PySem.W.nsIn K mainGlobals x = some (some (.ref f)) ∧ K.lookup f = some ⟨oc, od, .func (PySem.W.fnOf x x (defArgs st) (defBody st) (defScope st) .none kV doc pm an cdv ct), osl⟩ ∧ PySem.W.codeIn K cdv x = true ∧ PySem.W.keepIn K (.ref f) = true
/-- a def with a table of code objects -/
def DXT (K : PySem.W.Frag) (x : Str) (st : Stmt) (C P : Addr) : Prop := ∃ (f : Addr) (oc : Value) (od : Option Addr) (kV doc pm : Value) (an : Option Addr) (ct : Value) (osl : Array (Option Value)) (e : Value) (dd : Option Addr) (vs : Array Value) (sl : Array (Option Value)),
  PySem.W.nsIn K mainGlobals x = some (some (.ref f)) ∧ K.lookup f = some ⟨oc, od, .func (PySem.W.fnOf x x (defArgs st) (defBody st) (defScope st) .none kV doc pm an (.ref C) ct), osl⟩ ∧ PySem.W.codeIn K (.ref C) x = true ∧ PySem.W.keepIn K (.ref f) = true ∧
  K.lookup C = some ⟨e, dd, .fields vs, sl⟩ ∧ vs[11]? = some (.ref P) ∧ K.lookup P = none ∧ PySem.W.codeHdIn K C P = true
theorem dx_df {x : Str} {st : Stmt} {ps : List Str} (X : K.In h) (G : h.Ns mainGlobals mg) (d : DX K x st)
    (hb : ∀ (kV doc pm : Value) (an : Option Addr) (cdv ct : Value) (us : List Value), us.length = ps.length → bindArgs (PySem.W.fnOf x x (defArgs st) (defBody st) (defScope st) .none kV doc pm an cdv ct) ⟨us, []⟩ = pure (ps.zip us)) : Nonempty (Df K mg x st ps) := by
  obtain ⟨f, oc, od, kV, doc, pm, an, cdv, ct, osl, a, l, c, k⟩ := d
  exact ⟨⟨f, _, cdv, ⟨oc, od, kV, doc, pm, an, ct, osl, rfl, l⟩, c, PySem.W.mg_of X G a, k, (fun_mk l c k).binds hb⟩⟩
/-- the tables of the beginning are empty -/
def TabsAt (q : Program) (mg : Str → Option Value) (h : Heap) : Prop := ∀ d ∈ recsOf q, ∃ a o fd c P, mg d.name = some (.ref a) ∧ h.get? a = some o ∧ o.data = .func fd ∧ fd.code = .ref c ∧ h.IsCode c P #[] ∧ h.TableAt c P #[]
theorem dxt_df {x : Str} {st : Stmt} {ps : List Str} {q : Program} {C P : Addr} (X : K.In h) (G : h.Ns mainGlobals mg) (tab : TabsAt q mg h) (hr : ((recsOf q).any fun e => e.name == x) = true) (d : DXT K x st C P)
    (hb : ∀ (kV doc pm : Value) (an : Option Addr) (cdv ct : Value) (us : List Value), us.length = ps.length → bindArgs (PySem.W.fnOf x x (defArgs st) (defBody st) (defScope st) .none kV doc pm an cdv ct) ⟨us, []⟩ = pure (ps.zip us)) :
    (∃ t : Df K mg x st ps, t.cdv = .ref C) ∧ h.get? P = some { cls := .none, data := .fields #[] } ∧ K.lookup P = none ∧ PySem.W.CodeHd h C P := by
  obtain ⟨f, oc, od, kV, doc, pm, an, ct, osl, e, dd, vs, sl, a, l, c, k, lc, lp, np, hd⟩ := d
  refine ⟨⟨⟨f, _, .ref C, ⟨oc, od, kV, doc, pm, an, ct, osl, rfl, l⟩, c, PySem.W.mg_of X G a, k, (fun_mk l c k).binds hb⟩, rfl⟩, ?_, np, PySem.W.codeHd_of_K X hd⟩
  obtain ⟨dL, hm, hx⟩ := List.any_eq_true.mp hr
  obtain ⟨a1, o1, fd1, c1, P1, t1, t2, t3, t4, _, t6⟩ := tab dL hm
  have hx2 : dL.name = x := eq_of_beq hx
  rw [hx2, PySem.W.mg_of X G a] at t1
  cases t1
  rw [X _ _ l] at t2
  cases t2
  cases t3
  cases t4
  obtain ⟨⟨o2, v2, u1, _, u3, u4⟩, hP⟩ := t6
  rw [X _ _ lc] at u1
  cases u1
  cases u3
  rw [lp] at u4
  cases u4
  exact hP
/-- an error's class stands there -/
def EX (K : PySem.W.Frag) (x : Str) (C CS : Addr) : Prop := PySem.W.nsIn K mainGlobals x = some (some (.ref C)) ∧ PySem.W.keepIn K (.ref C) = true ∧
  PySem.W.excIn K C [.type "ValueError", .type "Exception", .type "BaseException", .type "object"] "ValueError.__new__" = true ∧ PySem.W.subIn K (.ref C) (.type "BaseException") = some true ∧ PySem.W.typeIn K (.ref C) = some (.type "type") ∧
  (PySem.W.findIn K (.ref C) "__getattribute__" = some (some (.builtin "BaseException.__getattribute__")) ∧ PySem.W.findIn K (.ref C) "__getattr__" = some none ∧ PySem.W.hasDictIn K C = true ∧ PySem.W.findIn K (.ref C) "__class__" = some (some (.builtin "object.__class__")) ∧
    PySem.W.specialIn K (.builtin "object.__class__") "__get__" = some (some (.builtin "getset_descriptor.__get__")) ∧ PySem.W.takesIn K (.builtin "object.__class__") = some true ∧ PySem.W.mroIn K C (.type "object") = some true) ∧
  PySem.W.kitOne K (.ref C) (.ref C) = some true ∧ (PySem.W.subIn K (.ref CS) (.type "BaseException") = some true ∧ PySem.W.isClsIn K CS = true ∧ PySem.W.typeIn K (.ref CS) = some (.type "type") ∧ PySem.W.subIn K (.ref C) (.ref CS) = some true)
theorem exm_of {C S : Addr} (a : PySem.W.subIn K (.ref S) (.type "BaseException") = some true) (b : PySem.W.isClsIn K S = true) (c : PySem.W.typeIn K (.ref S) = some (.type "type")) (d : PySem.W.subIn K (.ref C) (.ref S) = some true) : PySem.W.exmOne K (.ref C) (.ref S) = some true := by
  have b' : (PySem.W.clsIn K S).isSome = true := b
  unfold PySem.W.exmOne PySem.W.kitCls
  simp only [a, b', c, d, beq_self_eq_true, Bool.and_self, if_true]
theorem ex_er {x : Str} {C CS : Addr} (X : K.In h) (G : h.Ns mainGlobals mg) (e : EX K x C CS) : ErrC K mg x C CS := by
  obtain ⟨a, k, i, s, t, ⟨c1, c2, c3, c4, c5, c6, c7⟩, m, y1, y2, y3, y4⟩ := e
  exact ⟨PySem.W.mg_of X G a, k, i, s, t, ⟨c1, c2, s, c3, c4, c5, c6, c7⟩, m, exm_of y1 y2 y3 y4⟩
def twosOk : List Value → Bool
  | [.str a _, .str b _, .str c _, .str d _, .str e _, .str f _] => a == "plus" && (b == "minus" && (c == "times" && (d == "rest" && (e == "less" && f == "same"))))
  | _ => false
/-- the written texts TWOS -/
def TW (K : PySem.W.Frag) : Prop := ∃ (p : Addr) (od : Option Addr) (its : Array Value) (n : Nat) (sl : Array (Option Value)), PySem.W.nsIn K mainGlobals "TWOS" = some (some (.ref p)) ∧ K.lookup p = some ⟨.type "tuple", od, .seq its n, sl⟩ ∧ twosOk its.toList = true
theorem twos_rep (X : K.In h) (G : h.Ns mainGlobals mg) (t : TW K) : ∃ p, mg "TWOS" = some (.ref p) ∧ ∀ H, Rep K H wTWOS (.ref p) := by
  obtain ⟨p, od, its, n, sl, a, l, ok⟩ := t
  refine ⟨p, PySem.W.mg_of X G a, fun H => ?_⟩
  unfold twosOk at ok
  split at ok
  · rename_i x1 t1 x2 t2 x3 t3 x4 t4 x5 t5 x6 t6 e
    simp only [Bool.and_eq_true, beq_iff_eq] at ok
    obtain ⟨rfl, rfl, rfl, rfl, rfl, rfl⟩ := ok
    have hs : its.size = 6 := by rw [← Array.length_toList, e]; rfl
    unfold wTWOS Rep
    refine ⟨p, [.str "plus", .str "minus", .str "times", .str "rest", .str "less", .str "same"], rfl, .inr ⟨_, its, n, l, rfl, rfl, by rw [hs]; decide, ?_⟩, ?_⟩
    · rw [e]
      exact .cons ⟨_, rfl⟩ (.cons ⟨_, rfl⟩ (.cons ⟨_, rfl⟩ (.cons ⟨_, rfl⟩ (.cons ⟨_, rfl⟩ (.cons ⟨_, rfl⟩ .nil)))))
    · simp only [Reps, Rep]
      exact ⟨_, _, rfl, rfl, _, _, rfl, rfl, _, _, rfl, rfl, _, _, rfl, rfl, _, _, rfl, rfl, _, _, rfl, rfl, rfl⟩
  · cases ok
end
theorem dx_mk {K : PySem.W.Frag} {x : Str} {st : Stmt} {f : Addr} {oc : Value} {od : Option Addr} {kV doc pm : Value} {an : Option Addr} {cdv ct : Value} {osl : Array (Option Value)}
    (a : PySem.W.nsIn K mainGlobals x = some (some (.ref f))) (l : K.lookup f = some ⟨oc, od, .func (PySem.W.fnOf x x (defArgs st) (defBody st) (defScope st) .none kV doc pm an cdv ct), osl⟩) (c : PySem.W.codeIn K cdv x = true) (k : PySem.W.keepIn K (.ref f) = true) : DX K x st :=
  ⟨f, oc, od, kV, doc, pm, an, cdv, ct, osl, a, l, c, k⟩
theorem dxt_mk {K : PySem.W.Frag} {x : Str} {st : Stmt} {C P f : Addr} {oc : Value} {od : Option Addr} {kV doc pm : Value} {an : Option Addr} {ct : Value} {osl : Array (Option Value)} {e : Value} {dd : Option Addr} {vs : Array Value} {sl : Array (Option Value)}
    (a : PySem.W.nsIn K mainGlobals x = some (some (.ref f))) (l : K.lookup f = some ⟨oc, od, .func (PySem.W.fnOf x x (defArgs st) (defBody st) (defScope st) .none kV doc pm an (.ref C) ct), osl⟩) (c : PySem.W.codeIn K (.ref C) x = true) (k : PySem.W.keepIn K (.ref f) = true)
    (m : K.lookup C = some ⟨e, dd, .fields vs, sl⟩) (p : vs[11]? = some (.ref P)) (n : K.lookup P = none) (d : PySem.W.codeHdIn K C P = true) : DXT K x st C P :=
  ⟨f, oc, od, kV, doc, pm, an, ct, osl, e, dd, vs, sl, a, l, c, k, m, p, n, d⟩
theorem g_mk {K : PySem.W.Frag} {x : Str} {i : Int} {u : Tok} (a : PySem.W.nsIn K mainGlobals x = some (some (.int i u))) : ∃ u, PySem.W.nsIn K mainGlobals x = some (some (.int i u)) := ⟨u, a⟩
theorem tw_mk {K : PySem.W.Frag} {p : Addr} {od : Option Addr} {its : Array Value} {n : Nat} {sl : Array (Option Value)} (a : PySem.W.nsIn K mainGlobals "TWOS" = some (some (.ref p))) (l : K.lookup p = some ⟨.type "tuple", od, .seq its n, sl⟩) (ok : twosOk its.toList = true) : TW K :=
  ⟨p, od, its, n, sl, a, l, ok⟩
noncomputable def codesOf (q : Ads) (b : Addr) : Addr := if b = q.P_sorted_code then q.C_sorted_code else if b = q.P__law_mk_ordered then q.C__law_mk_ordered else if b = q.P__law_mk_refused_right then q.C__law_mk_refused_right else q.C_law
theorem fin {P : Program} {w : World} {K : PySem.W.Frag} {mg mb : Str → Option Value} {fa a : Addr} {st : Shared} {vs : List Value} {ns : List Int} {q : Ads} {qq : Program}
    (X : K.In st.heap) (G : st.heap.Ns mainGlobals mg) (hB : st.heap.Ns builtinsNs mb) (hBB : ∀ y : Str, y ≠ "__name__" → mb y = bootBuiltins y) (hL : st.heap.NoLimit) (hgen : st.gens = #[])
    (hM : ∃ (m : Addr) (o : Obj), mg "__builtins__" = some (.ref m) ∧ m ≠ builtinsNs ∧ st.heap.get? m = some o ∧ o.cls = .type "module" ∧ o.dict = some builtinsNs ∧ o.data = .plain)
    (hA : st.heap.get? a = some { cls := .type "list", data := .seq vs.toArray }) (hi : IntsAre vs ns) (hlen : ns.length ≤ 63) (hfa : mg "law" = some (.ref fa)) (tab : TabsAt qq mg st.heap)
    (d_is_whole : DX K "is_whole" (top 11))
    (d_is_from : DX K "is_from" (top 12))
    (d_is_votes : DX K "is_votes" (top 18))
    (d_are_registers : DX K "are_registers" (top 19))
    (d_instruction_fits : DX K "instruction_fits" (top 20))
    (d_settle_fits : DX K "settle_fits" (top 21))
    (d_is_settle : DX K "is_settle" (top 22))
    (d_cell_fits : DX K "cell_fits" (top 23))
    (d_is_code : DX K "is_code" (top 24))
    (d_need_code : DX K "need_code" (top 25))
    (d_need_hue : DX K "need_hue" (top 26))
    (d_need_address : DX K "need_address" (top 27))
    (d_own_cells : DX K "own_cells" (top 28))
    (d_instructions : DX K "instructions" (top 29))
    (d_label_lot : DX K "label_lot" (top 31))
    (d_labels_of : DX K "labels_of" (top 32))
    (d_stretch_list : DX K "stretch_list" (top 33))
    (d_stretches : DX K "stretches" (top 34))
    (d_exchange_spots : DX K "exchange_spots" (top 35))
    (d_exchangeable : DX K "exchangeable" (top 36))
    (d_with_cells : DX K "with_cells" (top 37))
    (d_exchanged : DX K "exchanged" (top 38))
    (d_sorted_code : DXT K "sorted_code" (top 39) q.C_sorted_code q.P_sorted_code)
    (d_is_schedule : DX K "is_schedule" (top 40))
    (d_need_schedule : DX K "need_schedule" (top 41))
    (d_nth_of : DX K "nth_of" (top 42))
    (d_own_ahead : DX K "own_ahead" (top 43))
    (d_moved_spot : DX K "moved_spot" (top 44))
    (d_moved_address : DX K "moved_address" (top 45))
    (d__law_begun : DX K "_law_begun" (top 47))
    (d__law_mixed : DX K "_law_mixed" (top 48))
    (d__law_draw : DX K "_law_draw" (top 49))
    (d__law_pick : DX K "_law_pick" (top 50))
    (d__law_caught : DX K "_law_caught" (top 51))
    (d__law_number : DX K "_law_number" (top 52))
    (d__law_size : DX K "_law_size" (top 53))
    (d__law_votes : DX K "_law_votes" (top 54))
    (d__law_two_words : DX K "_law_two_words" (top 55))
    (d__law_plain_step : DX K "_law_plain_step" (top 56))
    (d__law_laid : DX K "_law_laid" (top 57))
    (d__law_code_blocks : DX K "_law_code_blocks" (top 58))
    (d__law_sure_code : DX K "_law_sure_code" (top 59))
    (d__law_mk_cell : DX K "_law_mk_cell" (top 60))
    (d__law_mk_any_code : DX K "_law_mk_any_code" (top 61))
    (d__law_mk_bent : DX K "_law_mk_bent" (top 62))
    (d__law_mk_sure : DX K "_law_mk_sure" (top 63))
    (d__law_mk_code : DX K "_law_mk_code" (top 64))
    (d__law_mk_labels : DX K "_law_mk_labels" (top 65))
    (d__law_mk_stretches : DX K "_law_mk_stretches" (top 66))
    (d__law_mk_swaps : DX K "_law_mk_swaps" (top 67))
    (d__law_mk_swapped : DX K "_law_mk_swapped" (top 68))
    (d__law_mk_ordered : DXT K "_law_mk_ordered" (top 69) q.C__law_mk_ordered q.P__law_mk_ordered)
    (d__law_mk_no_schedules : DX K "_law_mk_no_schedules" (top 70))
    (d__law_mk_own_told : DX K "_law_mk_own_told" (top 71))
    (d__law_mk_lists_right : DX K "_law_mk_lists_right" (top 72))
    (d__law_mk_exchanges_right : DX K "_law_mk_exchanges_right" (top 73))
    (d__law_mk_refused_right : DXT K "_law_mk_refused_right" (top 74) q.C__law_mk_refused_right q.P__law_mk_refused_right)
    (d_law : DXT K "law" (top 75) q.C_law q.P_law)
    (n_abs : PySem.W.nsIn K mainGlobals "abs" = some none)
    (n_bool : PySem.W.nsIn K mainGlobals "bool" = some none)
    (n_enumerate : PySem.W.nsIn K mainGlobals "enumerate" = some none)
    (n_int : PySem.W.nsIn K mainGlobals "int" = some none)
    (n_isinstance : PySem.W.nsIn K mainGlobals "isinstance" = some none)
    (n_len : PySem.W.nsIn K mainGlobals "len" = some none)
    (n_list : PySem.W.nsIn K mainGlobals "list" = some none)
    (n_max : PySem.W.nsIn K mainGlobals "max" = some none)
    (n_min : PySem.W.nsIn K mainGlobals "min" = some none)
    (n_range : PySem.W.nsIn K mainGlobals "range" = some none)
    (n_repr : PySem.W.nsIn K mainGlobals "repr" = some none)
    (n_sorted : PySem.W.nsIn K mainGlobals "sorted" = some none)
    (n_str : PySem.W.nsIn K mainGlobals "str" = some none)
    (n_tuple : PySem.W.nsIn K mainGlobals "tuple" = some none)
    (g_LEAST_SIZE : ∃ u, PySem.W.nsIn K mainGlobals "LEAST_SIZE" = some (some (.int 2 u)))
    (g_MANY_REGISTERS : ∃ u, PySem.W.nsIn K mainGlobals "MANY_REGISTERS" = some (some (.int 8 u)))
    (g_MOST_BANK : ∃ u, PySem.W.nsIn K mainGlobals "MOST_BANK" = some (some (.int 600 u)))
    (g_MOST_CELLS : ∃ u, PySem.W.nsIn K mainGlobals "MOST_CELLS" = some (some (.int 4000 u)))
    (g_MOST_HUES : ∃ u, PySem.W.nsIn K mainGlobals "MOST_HUES" = some (some (.int 5 u)))
    (g_MOST_PORT : ∃ u, PySem.W.nsIn K mainGlobals "MOST_PORT" = some (some (.int 5 u)))
    (g_MOST_SIZE : ∃ u, PySem.W.nsIn K mainGlobals "MOST_SIZE" = some (some (.int 10000 u)))
    (g_TWOS : TW K)
    (e_HueError : EX K "HueError" q.HueError q.HueError)
    (e_BadCode : EX K "BadCode" q.BadCode q.HueError)
    (e_BadHue : EX K "BadHue" q.BadHue q.HueError)
    (e_BadAddress : EX K "BadAddress" q.BadAddress q.HueError)
    (e_NotSchedule : EX K "NotSchedule" q.NotSchedule q.HueError)
    (pn : [q.P_sorted_code, q.P__law_mk_ordered, q.P__law_mk_refused_right, q.P_law].Nodup)
    (r_sorted_code : ((recsOf qq).any fun e => e.name == ("sorted_code" : Str)) = true)
    (r__law_mk_ordered : ((recsOf qq).any fun e => e.name == ("_law_mk_ordered" : Str)) = true)
    (r__law_mk_refused_right : ((recsOf qq).any fun e => e.name == ("_law_mk_refused_right" : Str)) = true)
    (r_law : ((recsOf qq).any fun e => e.name == ("law" : Str)) = true) :
    codeAny (model P w) callerA (.call (.ref fa) ⟨[.ref a], []⟩) (fun r s' => r = .ok (.ret (.bool true)) ∧ OldK st.heap s'.heap ∧ s'.os = st.os ∧ AllBare s'.gens) st := by
  obtain ⟨d_is_whole⟩ := dx_df (ps := ["value"]) X G d_is_whole (fun _ _ _ _ _ _ us hl => match us, hl with | [_], _ => rfl)
  obtain ⟨d_is_from⟩ := dx_df (ps := ["value", "low", "high"]) X G d_is_from (fun _ _ _ _ _ _ us hl => match us, hl with | [_, _, _], _ => rfl)
  obtain ⟨d_is_votes⟩ := dx_df (ps := ["value"]) X G d_is_votes (fun _ _ _ _ _ _ us hl => match us, hl with | [_], _ => rfl)
  obtain ⟨d_are_registers⟩ := dx_df (ps := ["values"]) X G d_are_registers (fun _ _ _ _ _ _ us hl => match us, hl with | [_], _ => rfl)
  obtain ⟨d_instruction_fits⟩ := dx_df (ps := ["value", "hue", "size", "many"]) X G d_instruction_fits (fun _ _ _ _ _ _ us hl => match us, hl with | [_, _, _, _], _ => rfl)
  obtain ⟨d_settle_fits⟩ := dx_df (ps := ["value", "hues", "many"]) X G d_settle_fits (fun _ _ _ _ _ _ us hl => match us, hl with | [_, _, _], _ => rfl)
  obtain ⟨d_is_settle⟩ := dx_df (ps := ["cell"]) X G d_is_settle (fun _ _ _ _ _ _ us hl => match us, hl with | [_], _ => rfl)
  obtain ⟨d_cell_fits⟩ := dx_df (ps := ["value", "hues", "size", "many", "bank"]) X G d_cell_fits (fun _ _ _ _ _ _ us hl => match us, hl with | [_, _, _, _, _], _ => rfl)
  obtain ⟨d_is_code⟩ := dx_df (ps := ["value"]) X G d_is_code (fun _ _ _ _ _ _ us hl => match us, hl with | [_], _ => rfl)
  obtain ⟨d_need_code⟩ := dx_df (ps := ["code"]) X G d_need_code (fun _ _ _ _ _ _ us hl => match us, hl with | [_], _ => rfl)
  obtain ⟨d_need_hue⟩ := dx_df (ps := ["code", "hue"]) X G d_need_hue (fun _ _ _ _ _ _ us hl => match us, hl with | [_, _], _ => rfl)
  obtain ⟨d_need_address⟩ := dx_df (ps := ["code", "address"]) X G d_need_address (fun _ _ _ _ _ _ us hl => match us, hl with | [_, _], _ => rfl)
  obtain ⟨d_own_cells⟩ := dx_df (ps := ["code", "hue"]) X G d_own_cells (fun _ _ _ _ _ _ us hl => match us, hl with | [_, _], _ => rfl)
  obtain ⟨d_instructions⟩ := dx_df (ps := ["code", "hue"]) X G d_instructions (fun _ _ _ _ _ _ us hl => match us, hl with | [_, _], _ => rfl)
  obtain ⟨d_label_lot⟩ := dx_df (ps := ["cells"]) X G d_label_lot (fun _ _ _ _ _ _ us hl => match us, hl with | [_], _ => rfl)
  obtain ⟨d_labels_of⟩ := dx_df (ps := ["code"]) X G d_labels_of (fun _ _ _ _ _ _ us hl => match us, hl with | [_], _ => rfl)
  obtain ⟨d_stretch_list⟩ := dx_df (ps := ["code"]) X G d_stretch_list (fun _ _ _ _ _ _ us hl => match us, hl with | [_], _ => rfl)
  obtain ⟨d_stretches⟩ := dx_df (ps := ["code"]) X G d_stretches (fun _ _ _ _ _ _ us hl => match us, hl with | [_], _ => rfl)
  obtain ⟨d_exchange_spots⟩ := dx_df (ps := ["code"]) X G d_exchange_spots (fun _ _ _ _ _ _ us hl => match us, hl with | [_], _ => rfl)
  obtain ⟨d_exchangeable⟩ := dx_df (ps := ["code"]) X G d_exchangeable (fun _ _ _ _ _ _ us hl => match us, hl with | [_], _ => rfl)
  obtain ⟨d_with_cells⟩ := dx_df (ps := ["code", "cells"]) X G d_with_cells (fun _ _ _ _ _ _ us hl => match us, hl with | [_, _], _ => rfl)
  obtain ⟨d_exchanged⟩ := dx_df (ps := ["code", "address"]) X G d_exchanged (fun _ _ _ _ _ _ us hl => match us, hl with | [_, _], _ => rfl)
  obtain ⟨⟨d_sorted_code, c_sorted_code⟩, tE_sorted_code, tK_sorted_code, tC_sorted_code⟩ := dxt_df (ps := ["code"]) X G tab r_sorted_code d_sorted_code (fun _ _ _ _ _ _ us hl => match us, hl with | [_], _ => rfl)
  obtain ⟨d_is_schedule⟩ := dx_df (ps := ["code", "value"]) X G d_is_schedule (fun _ _ _ _ _ _ us hl => match us, hl with | [_, _], _ => rfl)
  obtain ⟨d_need_schedule⟩ := dx_df (ps := ["code", "other"]) X G d_need_schedule (fun _ _ _ _ _ _ us hl => match us, hl with | [_, _], _ => rfl)
  obtain ⟨d_nth_of⟩ := dx_df (ps := ["cells", "first", "end", "hue", "count"]) X G d_nth_of (fun _ _ _ _ _ _ us hl => match us, hl with | [_, _, _, _, _], _ => rfl)
  obtain ⟨d_own_ahead⟩ := dx_df (ps := ["cells", "first", "at", "hue"]) X G d_own_ahead (fun _ _ _ _ _ _ us hl => match us, hl with | [_, _, _, _], _ => rfl)
  obtain ⟨d_moved_spot⟩ := dx_df (ps := ["code", "other", "address"]) X G d_moved_spot (fun _ _ _ _ _ _ us hl => match us, hl with | [_, _, _], _ => rfl)
  obtain ⟨d_moved_address⟩ := dx_df (ps := ["code", "other", "address"]) X G d_moved_address (fun _ _ _ _ _ _ us hl => match us, hl with | [_, _, _], _ => rfl)
  obtain ⟨d__law_begun⟩ := dx_df (ps := ["_law_script"]) X G d__law_begun (fun _ _ _ _ _ _ us hl => match us, hl with | [_], _ => rfl)
  obtain ⟨d__law_mixed⟩ := dx_df (ps := ["_law_state"]) X G d__law_mixed (fun _ _ _ _ _ _ us hl => match us, hl with | [_], _ => rfl)
  obtain ⟨d__law_draw⟩ := dx_df (ps := ["_law_state", "_law_room"]) X G d__law_draw (fun _ _ _ _ _ _ us hl => match us, hl with | [_, _], _ => rfl)
  obtain ⟨d__law_pick⟩ := dx_df (ps := ["_law_state", "_law_some"]) X G d__law_pick (fun _ _ _ _ _ _ us hl => match us, hl with | [_, _], _ => rfl)
  obtain ⟨d__law_caught⟩ := dx_df (ps := ["_law_action"]) X G d__law_caught (fun _ _ _ _ _ _ us hl => match us, hl with | [_], _ => rfl)
  obtain ⟨d__law_number⟩ := dx_df (ps := ["_law_state", "_law_size_here"]) X G d__law_number (fun _ _ _ _ _ _ us hl => match us, hl with | [_, _], _ => rfl)
  obtain ⟨d__law_size⟩ := dx_df (ps := ["_law_state"]) X G d__law_size (fun _ _ _ _ _ _ us hl => match us, hl with | [_], _ => rfl)
  obtain ⟨d__law_votes⟩ := dx_df (ps := ["_law_state"]) X G d__law_votes (fun _ _ _ _ _ _ us hl => match us, hl with | [_], _ => rfl)
  obtain ⟨d__law_two_words⟩ := dx_df (ps := []) X G d__law_two_words (fun _ _ _ _ _ _ us hl => match us, hl with | [], _ => rfl)
  obtain ⟨d__law_plain_step⟩ := dx_df (ps := ["_law_state", "_law_size_here", "_law_bank"]) X G d__law_plain_step (fun _ _ _ _ _ _ us hl => match us, hl with | [_, _, _], _ => rfl)
  obtain ⟨d__law_laid⟩ := dx_df (ps := ["_law_state", "_law_hues", "_law_steps"]) X G d__law_laid (fun _ _ _ _ _ _ us hl => match us, hl with | [_, _, _], _ => rfl)
  obtain ⟨d__law_code_blocks⟩ := dx_df (ps := ["_law_state", "_law_blocks"]) X G d__law_code_blocks (fun _ _ _ _ _ _ us hl => match us, hl with | [_, _], _ => rfl)
  obtain ⟨d__law_sure_code⟩ := dx_df (ps := ["_law_state", "_law_votes_here", "_law_size_here"]) X G d__law_sure_code (fun _ _ _ _ _ _ us hl => match us, hl with | [_, _, _], _ => rfl)
  obtain ⟨d__law_mk_cell⟩ := dx_df (ps := ["_law_state", "_law_hues", "_law_size_here", "_law_bank", "_law_many"]) X G d__law_mk_cell (fun _ _ _ _ _ _ us hl => match us, hl with | [_, _, _, _, _], _ => rfl)
  obtain ⟨d__law_mk_any_code⟩ := dx_df (ps := ["_law_state"]) X G d__law_mk_any_code (fun _ _ _ _ _ _ us hl => match us, hl with | [_], _ => rfl)
  obtain ⟨d__law_mk_bent⟩ := dx_df (ps := ["_law_state", "_law_code"]) X G d__law_mk_bent (fun _ _ _ _ _ _ us hl => match us, hl with | [_, _], _ => rfl)
  obtain ⟨d__law_mk_sure⟩ := dx_df (ps := ["_law_state", "_law_votes_here"]) X G d__law_mk_sure (fun _ _ _ _ _ _ us hl => match us, hl with | [_, _], _ => rfl)
  obtain ⟨d__law_mk_code⟩ := dx_df (ps := ["_law_state"]) X G d__law_mk_code (fun _ _ _ _ _ _ us hl => match us, hl with | [_], _ => rfl)
  obtain ⟨d__law_mk_labels⟩ := dx_df (ps := ["_law_cells"]) X G d__law_mk_labels (fun _ _ _ _ _ _ us hl => match us, hl with | [_], _ => rfl)
  obtain ⟨d__law_mk_stretches⟩ := dx_df (ps := ["_law_cells"]) X G d__law_mk_stretches (fun _ _ _ _ _ _ us hl => match us, hl with | [_], _ => rfl)
  obtain ⟨d__law_mk_swaps⟩ := dx_df (ps := ["_law_cells"]) X G d__law_mk_swaps (fun _ _ _ _ _ _ us hl => match us, hl with | [_], _ => rfl)
  obtain ⟨d__law_mk_swapped⟩ := dx_df (ps := ["_law_code", "_law_at"]) X G d__law_mk_swapped (fun _ _ _ _ _ _ us hl => match us, hl with | [_, _], _ => rfl)
  obtain ⟨⟨d__law_mk_ordered, c__law_mk_ordered⟩, tE__law_mk_ordered, tK__law_mk_ordered, tC__law_mk_ordered⟩ := dxt_df (ps := ["_law_code"]) X G tab r__law_mk_ordered d__law_mk_ordered (fun _ _ _ _ _ _ us hl => match us, hl with | [_], _ => rfl)
  obtain ⟨d__law_mk_no_schedules⟩ := dx_df (ps := ["_law_state", "_law_code"]) X G d__law_mk_no_schedules (fun _ _ _ _ _ _ us hl => match us, hl with | [_, _], _ => rfl)
  obtain ⟨d__law_mk_own_told⟩ := dx_df (ps := ["_law_code", "_law_hue"]) X G d__law_mk_own_told (fun _ _ _ _ _ _ us hl => match us, hl with | [_, _], _ => rfl)
  obtain ⟨d__law_mk_lists_right⟩ := dx_df (ps := ["_law_code"]) X G d__law_mk_lists_right (fun _ _ _ _ _ _ us hl => match us, hl with | [_], _ => rfl)
  obtain ⟨d__law_mk_exchanges_right⟩ := dx_df (ps := ["_law_state", "_law_code"]) X G d__law_mk_exchanges_right (fun _ _ _ _ _ _ us hl => match us, hl with | [_, _], _ => rfl)
  obtain ⟨⟨d__law_mk_refused_right, c__law_mk_refused_right⟩, tE__law_mk_refused_right, tK__law_mk_refused_right, tC__law_mk_refused_right⟩ := dxt_df (ps := ["_law_state", "_law_code"]) X G tab r__law_mk_refused_right d__law_mk_refused_right (fun _ _ _ _ _ _ us hl => match us, hl with | [_, _], _ => rfl)
  obtain ⟨⟨d_law, c_law⟩, tE_law, tK_law, tC_law⟩ := dxt_df (ps := ["_law_script"]) X G tab r_law d_law (fun _ _ _ _ _ _ us hl => match us, hl with | [_], _ => rfl)
  have eTW := twos_rep X G g_TWOS
  have key := d_law.m.symm.trans hfa
  have key : d_law.f = fa := by injection key with e; injection e
  subst key
  have cs1 : codesOf q q.P_sorted_code = q.C_sorted_code := if_pos rfl
  have pn' := pn
  simp only [List.nodup_cons, List.mem_cons, List.not_mem_nil, or_false, not_or] at pn'
  obtain ⟨⟨p12, p13, p14⟩, ⟨p23, p24⟩, p34, _⟩ := pn'
  have cs2 : codesOf q q.P__law_mk_ordered = q.C__law_mk_ordered := by unfold codesOf; rw [if_neg (fun z => p12 z.symm), if_pos rfl]
  have cs3 : codesOf q q.P__law_mk_refused_right = q.C__law_mk_refused_right := by unfold codesOf; rw [if_neg (fun z => p13 z.symm), if_neg (fun z => p23 z.symm), if_pos rfl]
  have cs4 : codesOf q q.P_law = q.C_law := by unfold codesOf; rw [if_neg (fun z => p14 z.symm), if_neg (fun z => p24 z.symm), if_neg (fun z => p34 z.symm)]
  have each : ∀ {Z : Addr × Str → Prop}, Z (q.P_sorted_code, lamQ "sorted_code") → Z (q.P__law_mk_ordered, lamQ "_law_mk_ordered") → Z (q.P__law_mk_refused_right, lamQ "_law_mk_refused_right") → Z (q.P_law, lamQ "law") → ∀ t ∈ tT q, Z t := fun z1 z2 z3 z4 t ht => by
    simp only [tT, List.mem_cons, List.not_mem_nil, or_false] at ht
    rcases ht with rfl | rfl | rfl | rfl
    · exact z1
    · exact z2
    · exact z3
    · exact z4
  refine law_callG (T := tT q) (cd := codesOf q) (sp := sp_law q) (fd := d_law.fd) X G hB hBB hL hgen (each tE_sorted_code tE__law_mk_ordered tE__law_mk_refused_right tE_law) (each tK_sorted_code tK__law_mk_ordered tK__law_mk_refused_right tK_law)
    (each (by rw [cs1]; exact tC_sorted_code) (by rw [cs2]; exact tC__law_mk_ordered) (by rw [cs3]; exact tC__law_mk_refused_right) (by rw [cs4]; exact tC_law)) hM hA hi (Nat.le_trans hlen (by decide)) (k := 14) ⟨rfl, by decide, by decide⟩ (fun base bK bG tb => ?_) (x := "_law_script") ?_ (fun RX M R un k => L_law hlen un k)
  · have t1 := tb _ (mT_sorted_code q)
    have t2 := tb _ (mT__law_mk_ordered q)
    have t3 := tb _ (mT__law_mk_refused_right q)
    have t4 := tb _ (mT_law q)
    simp only [cs1, cs2, cs3, cs4] at t1 t2 t3 t4
    exact ok_law (q := q) (base := base) {
        d_is_whole := d_is_whole, d_is_from := d_is_from, d_is_votes := d_is_votes, d_are_registers := d_are_registers, d_instruction_fits := d_instruction_fits, d_settle_fits := d_settle_fits, d_is_settle := d_is_settle, d_cell_fits := d_cell_fits, d_is_code := d_is_code, d_need_code := d_need_code, d_need_hue := d_need_hue, d_need_address := d_need_address, d_own_cells := d_own_cells, d_instructions := d_instructions, d_label_lot := d_label_lot, d_labels_of := d_labels_of, d_stretch_list := d_stretch_list, d_stretches := d_stretches, d_exchange_spots := d_exchange_spots, d_exchangeable := d_exchangeable, d_with_cells := d_with_cells, d_exchanged := d_exchanged, d_sorted_code := d_sorted_code, d_is_schedule := d_is_schedule, d_need_schedule := d_need_schedule, d_nth_of := d_nth_of, d_own_ahead := d_own_ahead, d_moved_spot := d_moved_spot, d_moved_address := d_moved_address, d__law_begun := d__law_begun, d__law_mixed := d__law_mixed, d__law_draw := d__law_draw, d__law_pick := d__law_pick, d__law_caught := d__law_caught, d__law_number := d__law_number, d__law_size := d__law_size, d__law_votes := d__law_votes, d__law_two_words := d__law_two_words, d__law_plain_step := d__law_plain_step, d__law_laid := d__law_laid, d__law_code_blocks := d__law_code_blocks, d__law_sure_code := d__law_sure_code, d__law_mk_cell := d__law_mk_cell, d__law_mk_any_code := d__law_mk_any_code, d__law_mk_bent := d__law_mk_bent, d__law_mk_sure := d__law_mk_sure, d__law_mk_code := d__law_mk_code, d__law_mk_labels := d__law_mk_labels, d__law_mk_stretches := d__law_mk_stretches, d__law_mk_swaps := d__law_mk_swaps, d__law_mk_swapped := d__law_mk_swapped, d__law_mk_ordered := d__law_mk_ordered, d__law_mk_no_schedules := d__law_mk_no_schedules, d__law_mk_own_told := d__law_mk_own_told, d__law_mk_lists_right := d__law_mk_lists_right, d__law_mk_exchanges_right := d__law_mk_exchanges_right, d__law_mk_refused_right := d__law_mk_refused_right, d_law := d_law, n_abs := PySem.W.mg_none_of X G n_abs, n_bool := PySem.W.mg_none_of X G n_bool, n_enumerate := PySem.W.mg_none_of X G n_enumerate, n_int := PySem.W.mg_none_of X G n_int, n_isinstance := PySem.W.mg_none_of X G n_isinstance, n_len := PySem.W.mg_none_of X G n_len, n_list := PySem.W.mg_none_of X G n_list, n_max := PySem.W.mg_none_of X G n_max, n_min := PySem.W.mg_none_of X G n_min, n_range := PySem.W.mg_none_of X G n_range, n_repr := PySem.W.mg_none_of X G n_repr, n_sorted := PySem.W.mg_none_of X G n_sorted, n_str := PySem.W.mg_none_of X G n_str, n_tuple := PySem.W.mg_none_of X G n_tuple, g_LEAST_SIZE := (let ⟨u, hu⟩ := g_LEAST_SIZE; ⟨u, PySem.W.mg_of X G hu⟩), g_MANY_REGISTERS := (let ⟨u, hu⟩ := g_MANY_REGISTERS; ⟨u, PySem.W.mg_of X G hu⟩), g_MOST_BANK := (let ⟨u, hu⟩ := g_MOST_BANK; ⟨u, PySem.W.mg_of X G hu⟩), g_MOST_CELLS := (let ⟨u, hu⟩ := g_MOST_CELLS; ⟨u, PySem.W.mg_of X G hu⟩), g_MOST_HUES := (let ⟨u, hu⟩ := g_MOST_HUES; ⟨u, PySem.W.mg_of X G hu⟩), g_MOST_PORT := (let ⟨u, hu⟩ := g_MOST_PORT; ⟨u, PySem.W.mg_of X G hu⟩), g_MOST_SIZE := (let ⟨u, hu⟩ := g_MOST_SIZE; ⟨u, PySem.W.mg_of X G hu⟩), g_TWOS := eTW, e_HueError := ex_er X G e_HueError, e_BadCode := ex_er X G e_BadCode, e_BadHue := ex_er X G e_BadHue, e_BadAddress := ex_er X G e_BadAddress, e_NotSchedule := ex_er X G e_NotSchedule, tb_sorted_code := t1, c_sorted_code := c_sorted_code, tb__law_mk_ordered := t2, c__law_mk_ordered := c__law_mk_ordered, tb__law_mk_refused_right := t3, c__law_mk_refused_right := c__law_mk_refused_right, tb_law := t4, c_law := c_law, pn := pn }
  · intro s u
    obtain ⟨_, _, _, _, _, _, _, _, e, _⟩ := d_law.ex
    rw [e]
    exact .of_eq rfl
theorem fin2 {P : Program} {w : World} {K : PySem.W.Frag} {mg mb : Str → Option Value} {fa a : Addr} {st : Shared} {vs : List Value} {ns : List Int} {qq : Program} {aHueError aBadCode aBadHue aBadAddress aNotSchedule aP_sorted_code aP__law_mk_ordered aP__law_mk_refused_right aP_law aC_sorted_code aC__law_mk_ordered aC__law_mk_refused_right aC_law : Addr}
    (X : K.In st.heap) (G : st.heap.Ns mainGlobals mg) (hB : st.heap.Ns builtinsNs mb) (hBB : ∀ y : Str, y ≠ "__name__" → mb y = bootBuiltins y) (hL : st.heap.NoLimit) (hgen : st.gens = #[])
    (hM : ∃ (m : Addr) (o : Obj), mg "__builtins__" = some (.ref m) ∧ m ≠ builtinsNs ∧ st.heap.get? m = some o ∧ o.cls = .type "module" ∧ o.dict = some builtinsNs ∧ o.data = .plain)
    (hA : st.heap.get? a = some { cls := .type "list", data := .seq vs.toArray }) (hi : IntsAre vs ns) (hlen : ns.length ≤ 63) (hfa : mg "law" = some (.ref fa)) (tab : TabsAt qq mg st.heap)
    (d_is_whole : DX K "is_whole" (top 11))
    (d_is_from : DX K "is_from" (top 12))
    (d_is_votes : DX K "is_votes" (top 18))
    (d_are_registers : DX K "are_registers" (top 19))
    (d_instruction_fits : DX K "instruction_fits" (top 20))
    (d_settle_fits : DX K "settle_fits" (top 21))
    (d_is_settle : DX K "is_settle" (top 22))
    (d_cell_fits : DX K "cell_fits" (top 23))
    (d_is_code : DX K "is_code" (top 24))
    (d_need_code : DX K "need_code" (top 25))
    (d_need_hue : DX K "need_hue" (top 26))
    (d_need_address : DX K "need_address" (top 27))
    (d_own_cells : DX K "own_cells" (top 28))
    (d_instructions : DX K "instructions" (top 29))
    (d_label_lot : DX K "label_lot" (top 31))
    (d_labels_of : DX K "labels_of" (top 32))
    (d_stretch_list : DX K "stretch_list" (top 33))
    (d_stretches : DX K "stretches" (top 34))
    (d_exchange_spots : DX K "exchange_spots" (top 35))
    (d_exchangeable : DX K "exchangeable" (top 36))
    (d_with_cells : DX K "with_cells" (top 37))
    (d_exchanged : DX K "exchanged" (top 38))
    (d_sorted_code : DXT K "sorted_code" (top 39) aC_sorted_code aP_sorted_code)
    (d_is_schedule : DX K "is_schedule" (top 40))
    (d_need_schedule : DX K "need_schedule" (top 41))
    (d_nth_of : DX K "nth_of" (top 42))
    (d_own_ahead : DX K "own_ahead" (top 43))
    (d_moved_spot : DX K "moved_spot" (top 44))
    (d_moved_address : DX K "moved_address" (top 45))
    (d__law_begun : DX K "_law_begun" (top 47))
    (d__law_mixed : DX K "_law_mixed" (top 48))
    (d__law_draw : DX K "_law_draw" (top 49))
    (d__law_pick : DX K "_law_pick" (top 50))
    (d__law_caught : DX K "_law_caught" (top 51))
    (d__law_number : DX K "_law_number" (top 52))
    (d__law_size : DX K "_law_size" (top 53))
    (d__law_votes : DX K "_law_votes" (top 54))
    (d__law_two_words : DX K "_law_two_words" (top 55))
    (d__law_plain_step : DX K "_law_plain_step" (top 56))
    (d__law_laid : DX K "_law_laid" (top 57))
    (d__law_code_blocks : DX K "_law_code_blocks" (top 58))
    (d__law_sure_code : DX K "_law_sure_code" (top 59))
    (d__law_mk_cell : DX K "_law_mk_cell" (top 60))
    (d__law_mk_any_code : DX K "_law_mk_any_code" (top 61))
    (d__law_mk_bent : DX K "_law_mk_bent" (top 62))
    (d__law_mk_sure : DX K "_law_mk_sure" (top 63))
    (d__law_mk_code : DX K "_law_mk_code" (top 64))
    (d__law_mk_labels : DX K "_law_mk_labels" (top 65))
    (d__law_mk_stretches : DX K "_law_mk_stretches" (top 66))
    (d__law_mk_swaps : DX K "_law_mk_swaps" (top 67))
    (d__law_mk_swapped : DX K "_law_mk_swapped" (top 68))
    (d__law_mk_ordered : DXT K "_law_mk_ordered" (top 69) aC__law_mk_ordered aP__law_mk_ordered)
    (d__law_mk_no_schedules : DX K "_law_mk_no_schedules" (top 70))
    (d__law_mk_own_told : DX K "_law_mk_own_told" (top 71))
    (d__law_mk_lists_right : DX K "_law_mk_lists_right" (top 72))
    (d__law_mk_exchanges_right : DX K "_law_mk_exchanges_right" (top 73))
    (d__law_mk_refused_right : DXT K "_law_mk_refused_right" (top 74) aC__law_mk_refused_right aP__law_mk_refused_right)
    (d_law : DXT K "law" (top 75) aC_law aP_law)
    (n_abs : PySem.W.nsIn K mainGlobals "abs" = some none)
    (n_bool : PySem.W.nsIn K mainGlobals "bool" = some none)
    (n_enumerate : PySem.W.nsIn K mainGlobals "enumerate" = some none)
    (n_int : PySem.W.nsIn K mainGlobals "int" = some none)
    (n_isinstance : PySem.W.nsIn K mainGlobals "isinstance" = some none)
    (n_len : PySem.W.nsIn K mainGlobals "len" = some none)
    (n_list : PySem.W.nsIn K mainGlobals "list" = some none)
    (n_max : PySem.W.nsIn K mainGlobals "max" = some none)
    (n_min : PySem.W.nsIn K mainGlobals "min" = some none)
    (n_range : PySem.W.nsIn K mainGlobals "range" = some none)
    (n_repr : PySem.W.nsIn K mainGlobals "repr" = some none)
    (n_sorted : PySem.W.nsIn K mainGlobals "sorted" = some none)
    (n_str : PySem.W.nsIn K mainGlobals "str" = some none)
    (n_tuple : PySem.W.nsIn K mainGlobals "tuple" = some none)
    (g_LEAST_SIZE : ∃ u, PySem.W.nsIn K mainGlobals "LEAST_SIZE" = some (some (.int 2 u)))
    (g_MANY_REGISTERS : ∃ u, PySem.W.nsIn K mainGlobals "MANY_REGISTERS" = some (some (.int 8 u)))
    (g_MOST_BANK : ∃ u, PySem.W.nsIn K mainGlobals "MOST_BANK" = some (some (.int 600 u)))
    (g_MOST_CELLS : ∃ u, PySem.W.nsIn K mainGlobals "MOST_CELLS" = some (some (.int 4000 u)))
    (g_MOST_HUES : ∃ u, PySem.W.nsIn K mainGlobals "MOST_HUES" = some (some (.int 5 u)))
    (g_MOST_PORT : ∃ u, PySem.W.nsIn K mainGlobals "MOST_PORT" = some (some (.int 5 u)))
    (g_MOST_SIZE : ∃ u, PySem.W.nsIn K mainGlobals "MOST_SIZE" = some (some (.int 10000 u)))
    (g_TWOS : TW K)
    (e_HueError : EX K "HueError" aHueError aHueError)
    (e_BadCode : EX K "BadCode" aBadCode aHueError)
    (e_BadHue : EX K "BadHue" aBadHue aHueError)
    (e_BadAddress : EX K "BadAddress" aBadAddress aHueError)
    (e_NotSchedule : EX K "NotSchedule" aNotSchedule aHueError)
    (pn : [aP_sorted_code, aP__law_mk_ordered, aP__law_mk_refused_right, aP_law].Nodup)
    (r_sorted_code : ((recsOf qq).any fun e => e.name == ("sorted_code" : Str)) = true)
    (r__law_mk_ordered : ((recsOf qq).any fun e => e.name == ("_law_mk_ordered" : Str)) = true)
    (r__law_mk_refused_right : ((recsOf qq).any fun e => e.name == ("_law_mk_refused_right" : Str)) = true)
    (r_law : ((recsOf qq).any fun e => e.name == ("law" : Str)) = true) :
    codeAny (model P w) callerA (.call (.ref fa) ⟨[.ref a], []⟩) (fun r s' => r = .ok (.ret (.bool true)) ∧ OldK st.heap s'.heap ∧ s'.os = st.os ∧ AllBare s'.gens) st :=
  fin (q := ⟨aHueError, aBadCode, aBadHue, aBadAddress, aNotSchedule, aP_sorted_code, aP__law_mk_ordered, aP__law_mk_refused_right, aP_law, aC_sorted_code, aC__law_mk_ordered, aC__law_mk_refused_right, aC_law⟩) X G hB hBB hL hgen hM hA hi hlen hfa tab d_is_whole d_is_from d_is_votes d_are_registers d_instruction_fits d_settle_fits d_is_settle d_cell_fits d_is_code d_need_code d_need_hue d_need_address d_own_cells d_instructions d_label_lot d_labels_of d_stretch_list d_stretches d_exchange_spots d_exchangeable d_with_cells d_exchanged d_sorted_code d_is_schedule d_need_schedule d_nth_of d_own_ahead d_moved_spot d_moved_address d__law_begun d__law_mixed d__law_draw d__law_pick d__law_caught d__law_number d__law_size d__law_votes d__law_two_words d__law_plain_step d__law_laid d__law_code_blocks d__law_sure_code d__law_mk_cell d__law_mk_any_code d__law_mk_bent d__law_mk_sure d__law_mk_code d__law_mk_labels d__law_mk_stretches d__law_mk_swaps d__law_mk_swapped d__law_mk_ordered d__law_mk_no_schedules d__law_mk_own_told d__law_mk_lists_right d__law_mk_exchanges_right d__law_mk_refused_right d_law n_abs n_bool n_enumerate n_int n_isinstance n_len n_list n_max n_min n_range n_repr n_sorted n_str n_tuple g_LEAST_SIZE g_MANY_REGISTERS g_MOST_BANK g_MOST_CELLS g_MOST_HUES g_MOST_PORT g_MOST_SIZE g_TWOS e_HueError e_BadCode e_BadHue e_BadAddress e_NotSchedule pn r_sorted_code r__law_mk_ordered r__law_mk_refused_right r_law
end K75


set_option Elab.async false
set_option linter.all false
open PySem PySem.W PyProof.Rows
set_option maxRecDepth 100000 in
set_option maxHeartbeats 0 in
theorem PySem.Challenge.cw_hueward_k75_stretches_and_exchanges_holds : PySem.Challenge.rw_hueward_k75_stretches_and_exchanges.Holds := by
  w_on; o_law; k_head; (case hw => w_witness2)
  k_fill
  refine Att.attach_callB (l := PySem.Challenge.rw_hueward_k75_stretches_and_exchanges) (n := 63) rfl rfl fun w s₀ s₁ mg mb fa o pm cd doc a vs ns G Y ho hd hcd hmg hobj hints hlen hbits hg => ?_
  have KX := PySem.W.km_in_of Y
  refine' K75.fin2 KX G.T.g G.T.b G.T.builtins G.T.nolimit hg G.T.bmain hobj hints hlen hmg G.T.tab ?h0 ?h1 ?h2 ?h3 ?h4 ?h5 ?h6 ?h7 ?h8 ?h9 ?h10 ?h11 ?h12 ?h13 ?h14 ?h15 ?h16 ?h17 ?h18 ?h19 ?h20 ?h21 ?h22 ?h23 ?h24 ?h25 ?h26 ?h27 ?h28 ?h29 ?h30 ?h31 ?h32 ?h33 ?h34 ?h35 ?h36 ?h37 ?h38 ?h39 ?h40 ?h41 ?h42 ?h43 ?h44 ?h45 ?h46 ?h47 ?h48 ?h49 ?h50 ?h51 ?h52 ?h53 ?h54 ?h55 ?h56 ?h57 ?h58 ?h59 ?h60 ?h61 ?h62 ?h63 ?h64 ?h65 ?h66 ?h67 ?h68 ?h69 ?h70 ?h71 ?h72 ?h73 ?h74 ?h75 ?h76 ?h77 ?h78 ?h79 ?h80 ?h81 ?h82 ?h83 ?h84 ?h85 ?h86 ?h87 ?h88 ?h89
  (case h0 => refine' K75.dx_mk ?zA ?zL ?zC ?zK; (case zA => k_is); (case zL => k_is); (case zC => k_is); (case zK => k_is))
  (case h1 => refine' K75.dx_mk ?zA ?zL ?zC ?zK; (case zA => k_is); (case zL => k_is); (case zC => k_is); (case zK => k_is))
  (case h2 => refine' K75.dx_mk ?zA ?zL ?zC ?zK; (case zA => k_is); (case zL => k_is); (case zC => k_is); (case zK => k_is))
  (case h3 => refine' K75.dx_mk ?zA ?zL ?zC ?zK; (case zA => k_is); (case zL => k_is); (case zC => k_is); (case zK => k_is))
  (case h4 => refine' K75.dx_mk ?zA ?zL ?zC ?zK; (case zA => k_is); (case zL => k_is); (case zC => k_is); (case zK => k_is))
  (case h5 => refine' K75.dx_mk ?zA ?zL ?zC ?zK; (case zA => k_is); (case zL => k_is); (case zC => k_is); (case zK => k_is))
  (case h6 => refine' K75.dx_mk ?zA ?zL ?zC ?zK; (case zA => k_is); (case zL => k_is); (case zC => k_is); (case zK => k_is))
  (case h7 => refine' K75.dx_mk ?zA ?zL ?zC ?zK; (case zA => k_is); (case zL => k_is); (case zC => k_is); (case zK => k_is))
  (case h8 => refine' K75.dx_mk ?zA ?zL ?zC ?zK; (case zA => k_is); (case zL => k_is); (case zC => k_is); (case zK => k_is))
  (case h9 => refine' K75.dx_mk ?zA ?zL ?zC ?zK; (case zA => k_is); (case zL => k_is); (case zC => k_is); (case zK => k_is))
  (case h10 => refine' K75.dx_mk ?zA ?zL ?zC ?zK; (case zA => k_is); (case zL => k_is); (case zC => k_is); (case zK => k_is))
  (case h11 => refine' K75.dx_mk ?zA ?zL ?zC ?zK; (case zA => k_is); (case zL => k_is); (case zC => k_is); (case zK => k_is))
  (case h12 => refine' K75.dx_mk ?zA ?zL ?zC ?zK; (case zA => k_is); (case zL => k_is); (case zC => k_is); (case zK => k_is))
  (case h13 => refine' K75.dx_mk ?zA ?zL ?zC ?zK; (case zA => k_is); (case zL => k_is); (case zC => k_is); (case zK => k_is))
  (case h14 => refine' K75.dx_mk ?zA ?zL ?zC ?zK; (case zA => k_is); (case zL => k_is); (case zC => k_is); (case zK => k_is))
  (case h15 => refine' K75.dx_mk ?zA ?zL ?zC ?zK; (case zA => k_is); (case zL => k_is); (case zC => k_is); (case zK => k_is))
  (case h16 => refine' K75.dx_mk ?zA ?zL ?zC ?zK; (case zA => k_is); (case zL => k_is); (case zC => k_is); (case zK => k_is))
  (case h17 => refine' K75.dx_mk ?zA ?zL ?zC ?zK; (case zA => k_is); (case zL => k_is); (case zC => k_is); (case zK => k_is))
  (case h18 => refine' K75.dx_mk ?zA ?zL ?zC ?zK; (case zA => k_is); (case zL => k_is); (case zC => k_is); (case zK => k_is))
  (case h19 => refine' K75.dx_mk ?zA ?zL ?zC ?zK; (case zA => k_is); (case zL => k_is); (case zC => k_is); (case zK => k_is))
  (case h20 => refine' K75.dx_mk ?zA ?zL ?zC ?zK; (case zA => k_is); (case zL => k_is); (case zC => k_is); (case zK => k_is))
  (case h21 => refine' K75.dx_mk ?zA ?zL ?zC ?zK; (case zA => k_is); (case zL => k_is); (case zC => k_is); (case zK => k_is))
  (case h22 => refine' K75.dxt_mk ?zA ?zL ?zC ?zK ?zM ?zP ?zN ?zD; (case zA => k_is); (case zL => k_is); (case zC => k_is); (case zK => k_is); (case zM => k_is); (case zP => first | exact (rfl : (_ : Option Value) = some (Value.ref 415)) | exact (rfl : (_ : Option Value) = some (Value.ref 448)) | exact (rfl : (_ : Option Value) = some (Value.ref 224)) | exact (rfl : (_ : Option Value) = some (Value.ref 455))); (case zN => first | k_is | rfl | kernel_rfl); (case zD => first | k_is | rfl | kernel_rfl))
  (case h23 => refine' K75.dx_mk ?zA ?zL ?zC ?zK; (case zA => k_is); (case zL => k_is); (case zC => k_is); (case zK => k_is))
  (case h24 => refine' K75.dx_mk ?zA ?zL ?zC ?zK; (case zA => k_is); (case zL => k_is); (case zC => k_is); (case zK => k_is))
  (case h25 => refine' K75.dx_mk ?zA ?zL ?zC ?zK; (case zA => k_is); (case zL => k_is); (case zC => k_is); (case zK => k_is))
  (case h26 => refine' K75.dx_mk ?zA ?zL ?zC ?zK; (case zA => k_is); (case zL => k_is); (case zC => k_is); (case zK => k_is))
  (case h27 => refine' K75.dx_mk ?zA ?zL ?zC ?zK; (case zA => k_is); (case zL => k_is); (case zC => k_is); (case zK => k_is))
  (case h28 => refine' K75.dx_mk ?zA ?zL ?zC ?zK; (case zA => k_is); (case zL => k_is); (case zC => k_is); (case zK => k_is))
  (case h29 => refine' K75.dx_mk ?zA ?zL ?zC ?zK; (case zA => k_is); (case zL => k_is); (case zC => k_is); (case zK => k_is))
  (case h30 => refine' K75.dx_mk ?zA ?zL ?zC ?zK; (case zA => k_is); (case zL => k_is); (case zC => k_is); (case zK => k_is))
  (case h31 => refine' K75.dx_mk ?zA ?zL ?zC ?zK; (case zA => k_is); (case zL => k_is); (case zC => k_is); (case zK => k_is))
  (case h32 => refine' K75.dx_mk ?zA ?zL ?zC ?zK; (case zA => k_is); (case zL => k_is); (case zC => k_is); (case zK => k_is))
  (case h33 => refine' K75.dx_mk ?zA ?zL ?zC ?zK; (case zA => k_is); (case zL => k_is); (case zC => k_is); (case zK => k_is))
  (case h34 => refine' K75.dx_mk ?zA ?zL ?zC ?zK; (case zA => k_is); (case zL => k_is); (case zC => k_is); (case zK => k_is))
  (case h35 => refine' K75.dx_mk ?zA ?zL ?zC ?zK; (case zA => k_is); (case zL => k_is); (case zC => k_is); (case zK => k_is))
  (case h36 => refine' K75.dx_mk ?zA ?zL ?zC ?zK; (case zA => k_is); (case zL => k_is); (case zC => k_is); (case zK => k_is))
  (case h37 => refine' K75.dx_mk ?zA ?zL ?zC ?zK; (case zA => k_is); (case zL => k_is); (case zC => k_is); (case zK => k_is))
  (case h38 => refine' K75.dx_mk ?zA ?zL ?zC ?zK; (case zA => k_is); (case zL => k_is); (case zC => k_is); (case zK => k_is))
  (case h39 => refine' K75.dx_mk ?zA ?zL ?zC ?zK; (case zA => k_is); (case zL => k_is); (case zC => k_is); (case zK => k_is))
  (case h40 => refine' K75.dx_mk ?zA ?zL ?zC ?zK; (case zA => k_is); (case zL => k_is); (case zC => k_is); (case zK => k_is))
  (case h41 => refine' K75.dx_mk ?zA ?zL ?zC ?zK; (case zA => k_is); (case zL => k_is); (case zC => k_is); (case zK => k_is))
  (case h42 => refine' K75.dx_mk ?zA ?zL ?zC ?zK; (case zA => k_is); (case zL => k_is); (case zC => k_is); (case zK => k_is))
  (case h43 => refine' K75.dx_mk ?zA ?zL ?zC ?zK; (case zA => k_is); (case zL => k_is); (case zC => k_is); (case zK => k_is))
  (case h44 => refine' K75.dx_mk ?zA ?zL ?zC ?zK; (case zA => k_is); (case zL => k_is); (case zC => k_is); (case zK => k_is))
  (case h45 => refine' K75.dx_mk ?zA ?zL ?zC ?zK; (case zA => k_is); (case zL => k_is); (case zC => k_is); (case zK => k_is))
  (case h46 => refine' K75.dx_mk ?zA ?zL ?zC ?zK; (case zA => k_is); (case zL => k_is); (case zC => k_is); (case zK => k_is))
  (case h47 => refine' K75.dx_mk ?zA ?zL ?zC ?zK; (case zA => k_is); (case zL => k_is); (case zC => k_is); (case zK => k_is))
  (case h48 => refine' K75.dx_mk ?zA ?zL ?zC ?zK; (case zA => k_is); (case zL => k_is); (case zC => k_is); (case zK => k_is))
  (case h49 => refine' K75.dx_mk ?zA ?zL ?zC ?zK; (case zA => k_is); (case zL => k_is); (case zC => k_is); (case zK => k_is))
  (case h50 => refine' K75.dx_mk ?zA ?zL ?zC ?zK; (case zA => k_is); (case zL => k_is); (case zC => k_is); (case zK => k_is))
  (case h51 => refine' K75.dxt_mk ?zA ?zL ?zC ?zK ?zM ?zP ?zN ?zD; (case zA => k_is); (case zL => k_is); (case zC => k_is); (case zK => k_is); (case zM => k_is); (case zP => first | exact (rfl : (_ : Option Value) = some (Value.ref 415)) | exact (rfl : (_ : Option Value) = some (Value.ref 448)) | exact (rfl : (_ : Option Value) = some (Value.ref 224)) | exact (rfl : (_ : Option Value) = some (Value.ref 455))); (case zN => first | k_is | rfl | kernel_rfl); (case zD => first | k_is | rfl | kernel_rfl))
  (case h52 => refine' K75.dx_mk ?zA ?zL ?zC ?zK; (case zA => k_is); (case zL => k_is); (case zC => k_is); (case zK => k_is))
  (case h53 => refine' K75.dx_mk ?zA ?zL ?zC ?zK; (case zA => k_is); (case zL => k_is); (case zC => k_is); (case zK => k_is))
  (case h54 => refine' K75.dx_mk ?zA ?zL ?zC ?zK; (case zA => k_is); (case zL => k_is); (case zC => k_is); (case zK => k_is))
  (case h55 => refine' K75.dx_mk ?zA ?zL ?zC ?zK; (case zA => k_is); (case zL => k_is); (case zC => k_is); (case zK => k_is))
  (case h56 => refine' K75.dxt_mk ?zA ?zL ?zC ?zK ?zM ?zP ?zN ?zD; (case zA => k_is); (case zL => k_is); (case zC => k_is); (case zK => k_is); (case zM => k_is); (case zP => first | exact (rfl : (_ : Option Value) = some (Value.ref 415)) | exact (rfl : (_ : Option Value) = some (Value.ref 448)) | exact (rfl : (_ : Option Value) = some (Value.ref 224)) | exact (rfl : (_ : Option Value) = some (Value.ref 455))); (case zN => first | k_is | rfl | kernel_rfl); (case zD => first | k_is | rfl | kernel_rfl))
  (case h57 => refine' K75.dxt_mk ?zA ?zL ?zC ?zK ?zM ?zP ?zN ?zD; (case zA => k_is); (case zL => k_is); (case zC => k_is); (case zK => k_is); (case zM => k_is); (case zP => first | exact (rfl : (_ : Option Value) = some (Value.ref 415)) | exact (rfl : (_ : Option Value) = some (Value.ref 448)) | exact (rfl : (_ : Option Value) = some (Value.ref 224)) | exact (rfl : (_ : Option Value) = some (Value.ref 455))); (case zN => first | k_is | rfl | kernel_rfl); (case zD => first | k_is | rfl | kernel_rfl))
  (case h58 => k_is)
  (case h59 => k_is)
  (case h60 => k_is)
  (case h61 => k_is)
  (case h62 => k_is)
  (case h63 => k_is)
  (case h64 => k_is)
  (case h65 => k_is)
  (case h66 => k_is)
  (case h67 => k_is)
  (case h68 => k_is)
  (case h69 => k_is)
  (case h70 => k_is)
  (case h71 => k_is)
  (case h72 => refine' K75.g_mk ?zA; (case zA => k_is))
  (case h73 => refine' K75.g_mk ?zA; (case zA => k_is))
  (case h74 => refine' K75.g_mk ?zA; (case zA => k_is))
  (case h75 => refine' K75.g_mk ?zA; (case zA => k_is))
  (case h76 => refine' K75.g_mk ?zA; (case zA => k_is))
  (case h77 => refine' K75.g_mk ?zA; (case zA => k_is))
  (case h78 => refine' K75.g_mk ?zA; (case zA => k_is))
  (case h79 => refine' K75.tw_mk ?zA ?zL ?zO; (case zA => k_is); (case zL => k_is); (case zO => first | rfl | decide +kernel))
  (case h80 => refine' ⟨?zA, ?zB, ?zC, ?zD, ?zE, ⟨?zF, ?zG, ?zH, ?zI, ?zJ, ?zK, ?zL⟩, ?zM, ?zN, ?zO, ?zP, ?zQ⟩; (case zA => k_is); (case zB => k_is); (case zC => first | k_exc | rfl); (case zD => k_is); (case zE => k_is); (case zF => k_is); (case zG => k_is); (case zH => k_is); (case zI => k_is); (case zJ => k_is); (case zK => k_is); (case zL => k_is); (case zM => rfl); (case zN => k_is); (case zO => k_is); (case zP => k_is); (case zQ => first | rfl | k_is))
  (case h81 => refine' ⟨?zA, ?zB, ?zC, ?zD, ?zE, ⟨?zF, ?zG, ?zH, ?zI, ?zJ, ?zK, ?zL⟩, ?zM, ?zN, ?zO, ?zP, ?zQ⟩; (case zA => k_is); (case zB => k_is); (case zC => first | k_exc | rfl); (case zD => k_is); (case zE => k_is); (case zF => k_is); (case zG => k_is); (case zH => k_is); (case zI => k_is); (case zJ => k_is); (case zK => k_is); (case zL => k_is); (case zM => rfl); (case zN => k_is); (case zO => k_is); (case zP => k_is); (case zQ => first | rfl | k_is))
  (case h82 => refine' ⟨?zA, ?zB, ?zC, ?zD, ?zE, ⟨?zF, ?zG, ?zH, ?zI, ?zJ, ?zK, ?zL⟩, ?zM, ?zN, ?zO, ?zP, ?zQ⟩; (case zA => k_is); (case zB => k_is); (case zC => first | k_exc | rfl); (case zD => k_is); (case zE => k_is); (case zF => k_is); (case zG => k_is); (case zH => k_is); (case zI => k_is); (case zJ => k_is); (case zK => k_is); (case zL => k_is); (case zM => rfl); (case zN => k_is); (case zO => k_is); (case zP => k_is); (case zQ => first | rfl | k_is))
  (case h83 => refine' ⟨?zA, ?zB, ?zC, ?zD, ?zE, ⟨?zF, ?zG, ?zH, ?zI, ?zJ, ?zK, ?zL⟩, ?zM, ?zN, ?zO, ?zP, ?zQ⟩; (case zA => k_is); (case zB => k_is); (case zC => first | k_exc | rfl); (case zD => k_is); (case zE => k_is); (case zF => k_is); (case zG => k_is); (case zH => k_is); (case zI => k_is); (case zJ => k_is); (case zK => k_is); (case zL => k_is); (case zM => rfl); (case zN => k_is); (case zO => k_is); (case zP => k_is); (case zQ => first | rfl | k_is))
  (case h84 => refine' ⟨?zA, ?zB, ?zC, ?zD, ?zE, ⟨?zF, ?zG, ?zH, ?zI, ?zJ, ?zK, ?zL⟩, ?zM, ?zN, ?zO, ?zP, ?zQ⟩; (case zA => k_is); (case zB => k_is); (case zC => first | k_exc | rfl); (case zD => k_is); (case zE => k_is); (case zF => k_is); (case zG => k_is); (case zH => k_is); (case zI => k_is); (case zJ => k_is); (case zK => k_is); (case zL => k_is); (case zM => rfl); (case zN => k_is); (case zO => k_is); (case zP => k_is); (case zQ => first | rfl | k_is))
  (case h85 => decide)
  (case h86 => decide +kernel)
  (case h87 => decide +kernel)
  (case h88 => decide +kernel)
  (case h89 => decide +kernel)


