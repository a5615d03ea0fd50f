import PyProof.Rows.All
import Wide.All
import OpenK.AllK
import Wide.FinOn
import HandS.ForMost
import HandS.Evl
import HandS.Wide
import HandS.WideMore
import HandS.WideBits
import HandS.SortInts
import HandS.Zip
import HandS.TupSets
import HandS.TupAny
import HandS.TupMul
import HandS.TupLe
import HandS.More
import HandS.Rev
import HandS.IsInst
import HandS.EndTab
import KE.KNestM
import KE.GoesEnum
import PyProof.Draws
import PyProof.ReprLen
import HandS.Deep
import HandS.Strs
import HandS.Conv
import HandS.SetFor
import PyProof.TupleOfSeq
import KE.KExcSuper
import KE.KSuper
import HandS.ExcInit
import HandS.ExcField
import HandS.ExcIs
import HandS.Lambda
import KE.KExcIs
import PySem.Challenge.RW_surelyahead_k63_what_sources_refuse
set_option Elab.async false
set_option linter.all false
set_option maxRecDepth 100000
set_option maxHeartbeats 4000000
namespace Sa
open PySem L2
open Evl (Ex)

/-! ## Data, and how an abstract heap bears it -/
inductive D where
  | non | bl (b : Bool) | int (i : Int) | str (s : Str) | tup (ds : List D) | lst (ds : List D)

abbrev Fg := PySem.W.Frag
mutual
def Rep (K : Fg) (H : Hp) : D → V → Prop
  | .non, v => v = .non
  | .bl b, v => v = .bl b
  | .int i, v => v = .int i
  | .str s, v => v = .str s
  | .tup ds, v => ∃ a xs, v = .ref a ∧ SqT K H a xs ∧ RepL K H ds xs
  | .lst ds, v => ∃ a xs, v = .ref a ∧ SqL K H a xs ∧ RepL K H ds xs
def RepL (K : Fg) (H : Hp) : List D → List V → Prop
  | [], xs => xs = []
  | d :: ds, xs => ∃ x r, xs = x :: r ∧ Rep K H d x ∧ RepL K H ds r
end
section
variable {K : Fg} {H H' H1 : Hp}
mutual
theorem Rep.mono (e : Ex H H') : ∀ (d : D) (v : V), Rep K H d v → Rep K H' d v
  | .non, _, h => h
  | .bl _, _, h => h
  | .int _, _, h => h
  | .str _, _, h => h
  | .tup ds, v, h => by
    obtain ⟨a, xs, rfl, h1, h2⟩ := h
    exact ⟨a, xs, rfl, Evl.ex_t e h1, RepL.mono e ds xs h2⟩
  | .lst ds, v, h => by
    obtain ⟨a, xs, rfl, h1, h2⟩ := h
    exact ⟨a, xs, rfl, Evl.ex_l e h1, RepL.mono e ds xs h2⟩
theorem RepL.mono (e : Ex H H') : ∀ (ds : List D) (xs : List V), RepL K H ds xs → RepL K H' ds xs
  | [], _, h => h
  | d :: ds, xs, h => by
    obtain ⟨x, r, rfl, h1, h2⟩ := h
    exact ⟨x, r, rfl, Rep.mono e d x h1, RepL.mono e ds r h2⟩
end
theorem RepL.nil : RepL K H [] [] := rfl
theorem RepL.cons {d : D} {v : V} {ds : List D} {vs : List V} (h : Rep K H d v) (t : RepL K H ds vs) : RepL K H (d :: ds) (v :: vs) := ⟨v, vs, rfl, h, t⟩
theorem RepL.len : ∀ {ds : List D} {xs : List V}, RepL K H ds xs → ds.length = xs.length
  | [], _, h => by rw [show _ = _ from h]; rfl
  | d :: ds, _, h => by
    obtain ⟨x, r, rfl, _, h2⟩ := h
    simp [RepL.len h2]
theorem RepL.get : ∀ {ds : List D} {xs : List V} {i : Nat} {d : D}, RepL K H ds xs → ds[i]? = some d → ∃ x, xs[i]? = some x ∧ Rep K H d x
  | [], _, i, d, _, e => by simp at e
  | d :: ds, _, 0, _, h, e => by
    obtain ⟨x, r, rfl, h1, _⟩ := h
    simp at e; subst e
    exact ⟨x, rfl, h1⟩
  | d :: ds, _, i + 1, _, h, e => by
    obtain ⟨x, r, rfl, _, h2⟩ := h
    obtain ⟨y, e1, e2⟩ := RepL.get (i := i) h2 (by simpa using e)
    exact ⟨y, by simpa using e1, e2⟩
theorem RepL.get' {ds : List D} {xs : List V} {i : Nat} {d : D} {x : V} (h : RepL K H ds xs) (e : ds[i]? = some d) (e' : xs[i]? = some x) : Rep K H d x := by
  obtain ⟨y, h1, h2⟩ := h.get e
  rw [e'] at h1; cases h1
  exact h2
theorem RepL.of : ∀ {ds : List D} {xs : List V}, ds.length = xs.length → (∀ (i : Nat) d x, ds[i]? = some d → xs[i]? = some x → Rep K H d x) → RepL K H ds xs
  | [], [], _, _ => RepL.nil
  | [], _ :: _, e, _ => by simp at e
  | _ :: _, [], e, _ => by simp at e
  | d :: ds, x :: xs, e, h => .cons (h 0 d x rfl rfl) (RepL.of (by simpa using e) fun i d' x' h1 h2 => h (i + 1) d' x' (by simpa using h1) (by simpa using h2))
theorem RepL.app : ∀ {ds es : List D} {xs ys : List V}, RepL K H ds xs → RepL K H es ys → RepL K H (ds ++ es) (xs ++ ys)
  | [], _, _, _, h, t => by rw [show _ = _ from h]; exact t
  | d :: ds, _, _, _, h, t => by
    obtain ⟨x, r, rfl, h1, h2⟩ := h
    exact .cons h1 (RepL.app h2 t)
theorem RepL.one {d : D} {v : V} (h : Rep K H d v) : RepL K H [d] [v] := .cons h .nil
theorem RepL.take (n : Nat) {ds : List D} {xs : List V} (h : RepL K H ds xs) : RepL K H (ds.take n) (xs.take n) :=
  RepL.of (by rw [List.length_take, List.length_take, h.len]) fun i d x e1 e2 => by
    rw [List.getElem?_take] at e1 e2
    split at e1
    · rename_i hi
      rw [if_pos hi] at e2
      exact h.get' e1 e2
    · cases e1
theorem RepL.drop (n : Nat) {ds : List D} {xs : List V} (h : RepL K H ds xs) : RepL K H (ds.drop n) (xs.drop n) :=
  RepL.of (by rw [List.length_drop, List.length_drop, h.len]) fun i d x e1 e2 => by
    rw [List.getElem?_drop] at e1 e2
    exact h.get' e1 e2
theorem RepL.set {ds : List D} {xs : List V} (h : RepL K H ds xs) (j : Nat) {d : D} {v : V} (r : Rep K H d v) : RepL K H (ds.set j d) (xs.set j v) :=
  RepL.of (by rw [List.length_set, List.length_set, h.len]) fun i d' x e1 e2 => by
    rw [List.getElem?_set] at e1 e2
    split at e1
    · rename_i hi
      rw [if_pos hi] at e2
      split at e1
      · rename_i hl
        rw [if_pos (by rw [← h.len]; exact hl)] at e2
        cases e1; cases e2
        exact r
      · cases e1
    · rename_i hi
      rw [if_neg hi] at e2
      exact h.get' e1 e2
theorem RepL.erase {ds : List D} {xs : List V} (h : RepL K H ds xs) (j : Nat) : RepL K H (ds.eraseIdx j) (xs.eraseIdx j) :=
  RepL.of (by rw [List.length_eraseIdx, List.length_eraseIdx, h.len]) fun i d' x e1 e2 => by
    rw [List.getElem?_eraseIdx] at e1 e2
    split at e1
    · rename_i hi
      rw [if_pos hi] at e2
      exact h.get' e1 e2
    · rename_i hi
      rw [if_neg hi] at e2
      exact h.get' e1 e2
theorem RepL.rev {ds : List D} {xs : List V} (h : RepL K H ds xs) : RepL K H ds.reverse xs.reverse :=
  RepL.of (by simp [h.len]) fun i d x e1 e2 => by
    have hi : i < ds.length := by
      have := (List.getElem?_eq_some_iff.mp e1).1
      simpa using this
    rw [List.getElem?_reverse hi] at e1
    rw [List.getElem?_reverse (by rw [← h.len]; exact hi)] at e2
    rw [h.len] at e1
    exact h.get' e1 e2
theorem RepL.ints : ∀ {ns : List Int} {xs : List V}, RepL K H (ns.map D.int) xs → xs = ns.map V.int
  | [], _, h => h
  | n :: ns, _, h => by
    obtain ⟨x, r, rfl, h1, h2⟩ := h
    rw [show x = V.int n from h1, RepL.ints h2]
    rfl
theorem RepL.bls : ∀ {ns : List Bool} {xs : List V}, RepL K H (ns.map D.bl) xs → xs = ns.map V.bl
  | [], _, h => h
  | n :: ns, _, h => by
    obtain ⟨x, r, rfl, h1, h2⟩ := h
    rw [show x = V.bl n from h1, RepL.bls h2]
    rfl
theorem RepL.of_ints : ∀ (ns : List Int), RepL K H (ns.map D.int) (ns.map V.int)
  | [] => .nil
  | n :: ns => .cons rfl (RepL.of_ints ns)
end

/-! ## Environments: slots that hold data, or a mutable object of their own -/
/-- the defs whose tables of code objects grow (a lambda in them) -/
def lamDefs : List Str := ["_law_right"]
/-- the table of the def at the name x, and its lambda's name -/
def tbls (K : Fg) : List (Addr × Str) := lamDefs.flatMap fun x => match PySem.W.tabIn K x with
  | some (_, P) => [(P, (x ++ ".<locals>.") ++ "<lambda>")]
  | none => []
def NT (Hb : Hp) : Prop := ∀ a ps, Hb a ≠ some (.tbl ps)
/-- without tables -/
def cl (Hb : Hp) : Hp := fun a => match Hb a with
  | some (.tbl _) => none
  | o => o
theorem cl_some {Hb : Hp} {a : Addr} {o : HO} (h : cl Hb a = some o) : Hb a = some o ∧ ∀ ps, o ≠ .tbl ps := by
  unfold cl at h
  split at h
  · cases h
  · rename_i q
    exact ⟨h, fun ps z => q ps (by rw [h, z])⟩
theorem cl_of {Hb : Hp} {a : Addr} {o : HO} (h : Hb a = some o) (n : ∀ ps, o ≠ .tbl ps) : cl Hb a = some o := by
  unfold cl
  split
  · rename_i q; rw [h] at q; exact absurd (Option.some.inj q) (n _)
  · exact h
theorem cl_eq {Hb : Hp} {a : Addr} (n : ∀ ps, Hb a ≠ some (.tbl ps)) : cl Hb a = Hb a := by
  unfold cl
  split
  · rename_i q; exact absurd q (n _)
  · rfl
theorem cl_none {Hb : Hp} {a : Addr} (h : Hb a = none) : cl Hb a = none := (cl_eq fun ps z => by rw [h] at z; cases z).trans h
theorem cl_nt {Hb : Hp} : NT (cl Hb) := fun a ps h => (cl_some h).2 ps rfl
theorem cl_ex {Hb H : Hp} (e : Ex Hb H) : Ex (cl Hb) H := fun a o h => e a o (cl_some h).1
theorem ex_cl {Hb Hb' : Hp} (n : NT Hb) (e : Ex Hb Hb') : Ex Hb (cl Hb') := fun a o h => cl_of (e a o h) fun ps z => n a ps (by rw [h, z])
theorem nt_lst {Hb : Hp} {l : Addr} {xs : List V} (n : NT Hb) : NT (upd Hb l (.lst xs)) := fun a ps z => by
  by_cases e : a = l
  · subst e; rw [upd_same] at z; cases z
  · rw [upd_ne e] at z; exact n a ps z
theorem cl_t {K : Fg} {Hb : Hp} {a : Addr} {xs : List V} (h : SqT K Hb a xs) : SqT K (cl Hb) a xs := by
  rcases h with h | h
  · refine .inl ?_
    first
      | exact cl_of h (fun ps z => by cases z)
      | (rcases h with h | ⟨o, h⟩
         · exact .inl (cl_of h (fun ps z => by cases z))
         · exact .inr ⟨o, cl_of h (fun ps z => by cases z)⟩)
  · exact .inr h
theorem cl_l {K : Fg} {Hb : Hp} {a : Addr} {xs : List V} (h : SqL K Hb a xs) : SqL K (cl Hb) a xs := by
  rcases h with h | h
  · refine .inl ?_
    first
      | exact cl_of h (fun ps z => by cases z)
      | (rcases h with h | ⟨o, h⟩
         · exact .inl (cl_of h (fun ps z => by cases z))
         · exact .inr ⟨o, cl_of h (fun ps z => by cases z)⟩)
  · exact .inr h
mutual
theorem Rep.cl {K : Fg} {Hb : Hp} : ∀ (d : D) (v : V), Rep K Hb d v → Rep K (cl Hb) d v
  | .non, _, h => h
  | .bl _, _, h => h
  | .int _, _, h => h
  | .str _, _, h => h
  | .tup ds, v, h => by
    obtain ⟨a, xs, rfl, h1, h2⟩ := h
    exact ⟨a, xs, rfl, cl_t h1, RepL.cl ds xs h2⟩
  | .lst ds, v, h => by
    obtain ⟨a, xs, rfl, h1, h2⟩ := h
    exact ⟨a, xs, rfl, cl_l h1, RepL.cl ds xs h2⟩
theorem RepL.cl {K : Fg} {Hb : Hp} : ∀ (ds : List D) (xs : List V), RepL K Hb ds xs → RepL K (Sa.cl Hb) ds xs
  | [], _, h => h
  | d :: ds, xs, h => by
    obtain ⟨x, r, rfl, h1, h2⟩ := h
    exact ⟨x, r, rfl, Rep.cl d x h1, RepL.cl ds r h2⟩
end
/-- an object that is no table and no code object changes -/
theorem tabs_upd {T : List (Addr × Str)} {H : Hp} {l : Addr} {u : HO} (t : LamX.Tabs T H) (hz : H l = none ∨ ∃ xs, H l = some (.lst xs)) : LamX.Tabs T (upd H l u) := fun p hp => by
  obtain ⟨ps, h1, h2, h3⟩ := t p hp
  have ne : ∀ {a : Addr} {o : HO}, H a = some o → (∀ xs, o ≠ .lst xs) → a ≠ l := fun {a o} e n z => by
    subst z
    rcases hz with q | ⟨xs, q⟩
    · rw [q] at e; cases e
    · rw [q] at e; exact n xs (Option.some.inj e).symm
  refine ⟨ps, (upd_ne (ne h1 fun xs z => by cases z)).trans h1, h2, fun pos cv hc => ?_⟩
  obtain ⟨c, e1, e2⟩ := h3 pos cv hc
  exact ⟨c, e1, (upd_ne (ne e2 fun xs z => by unfold LamX.CodeO at z; cases z)).trans e2⟩
inductive Ob where
  | lst (ds : List D)
inductive Sl where
  | non | val (d : D) (pn : Bool) | own (o : Ob) (pn : Bool)
abbrev Rho := List Sl
def ObAt (K : Fg) (H Hb : Hp) (l : Addr) : Ob → Prop
  | .lst ds => ∃ xs, H l = some (.lst xs) ∧ RepL K Hb ds xs
def Own (ρ : Rho) (σ : L2.St) (l : Addr) : Prop := ∃ (i : Nat) (o : Ob) (p : Bool), ρ[i]? = some (.own o p) ∧ σ[i]? = some (some (.ref l))
/-- .. in a slot that is pinned, or not -/
def OwnF (ρ : Rho) (σ : L2.St) (p : Bool) (l : Addr) : Prop := ∃ (i : Nat) (o : Ob), ρ[i]? = some (.own o p) ∧ σ[i]? = some (some (.ref l))
theorem OwnF.own {ρ : Rho} {σ : L2.St} {p : Bool} {l : Addr} (h : OwnF ρ σ p l) : Own ρ σ l := let ⟨i, o, a, b⟩ := h; ⟨i, o, p, a, b⟩
theorem Own.f {ρ : Rho} {σ : L2.St} {l : Addr} (h : Own ρ σ l) : ∃ p, OwnF ρ σ p l := let ⟨i, o, p, a, b⟩ := h; ⟨p, i, o, a, b⟩
structure Rel (K : Fg) (ρ : Rho) (σ : L2.St) (H Hb : Hp) : Prop where
  ex : Ex Hb H
  len : ρ.length = σ.length
  val : ∀ (i : Nat) d p, ρ[i]? = some (.val d p) → ∃ v, σ[i]? = some (some v) ∧ Rep K Hb d v
  own : ∀ (i : Nat) o p, ρ[i]? = some (.own o p) → ∃ l, σ[i]? = some (some (.ref l)) ∧ ObAt K H Hb l o ∧ Hb l = none
  sep : ∀ (i j : Nat) o p o' p' l, ρ[i]? = some (.own o p) → ρ[j]? = some (.own o' p') → σ[i]? = some (some (.ref l)) → σ[j]? = some (some (.ref l)) → i = j
  nt : NT Hb
  tb : LamX.Tabs (tbls K) H
structure Step (K : Fg) (ρ : Rho) (σ : L2.St) (H Hb : Hp) (ρ' : Rho) (σ' : L2.St) (H' Hb' : Hp) : Prop where
  rel : Rel K ρ' σ' H' Hb'
  ext : Ex Hb Hb'
  kp : ∀ a o, H a = some o → ¬ Own ρ σ a → (∀ ps, o ≠ .tbl ps) → H' a = some o
  nb : ∀ a, H a ≠ none → Hb a = none → ¬ Own ρ σ a → Hb' a = none
  ow : ∀ p a, OwnF ρ' σ' p a → OwnF ρ σ p a ∨ p = false ∧ H a = none
  al : ∀ a, H' a = none → H a = none
/-- expressions: what holds data keeps it, what owns owns or is frozen -/
structure Keep (ρ ρ' : Rho) : Prop where
  len : ρ'.length = ρ.length
  non : ∀ (i : Nat), ρ[i]? = some .non → ρ'[i]? = some .non
  val : ∀ (i : Nat) d p, ρ[i]? = some (.val d p) → ρ'[i]? = some (.val d p)
  own : ∀ (i : Nat) o p, ρ[i]? = some (.own o p) → (∃ o', ρ'[i]? = some (.own o' p)) ∨ ∃ d, ρ'[i]? = some (.val d p)
/-- statements: pinned slots stay -/
structure Pin (ρ : Rho) (σ : L2.St) (ρ' : Rho) (σ' : L2.St) : Prop where
  len : ρ'.length = ρ.length
  val : ∀ (i : Nat) d, ρ[i]? = some (.val d true) → ρ'[i]? = some (.val d true) ∧ σ'[i]? = σ[i]?
  own : ∀ (i : Nat) o, ρ[i]? = some (.own o true) → ((∃ o', ρ'[i]? = some (.own o' true)) ∨ ∃ d, ρ'[i]? = some (.val d true)) ∧ σ'[i]? = σ[i]?
section
variable {K : Fg} {ρ ρ1 ρ2 ρ' : Rho} {σ σ1 σ2 σ' : L2.St} {H H1 H2 H' Hb Hb1 Hb2 Hb' : Hp}
theorem ObAt.mono {l : Addr} {o : Ob} (h : ObAt K H Hb l o) (e1 : H' l = H l) (e2 : Ex Hb Hb') : ObAt K H' Hb' l o := by
  cases o with
  | lst ds =>
    obtain ⟨xs, h1, h2⟩ := h
    exact ⟨xs, e1.trans h1, RepL.mono e2 _ _ h2⟩
theorem ObAt.some {l : Addr} {o : Ob} (h : ObAt K H Hb l o) : H l ≠ none := by
  cases o with
  | lst ds =>
    obtain ⟨xs, h1, _⟩ := h
    rw [h1]; simp
theorem ObAt.ntb {l : Addr} {o : Ob} {u : HO} (h : ObAt K H Hb l o) (e : H l = Option.some u) : ∀ ps, u ≠ .tbl ps := fun ps z => by
  cases o with
  | lst ds =>
    obtain ⟨xs, h1, _⟩ := h
    rw [h1] at e
    rw [z] at e
    cases e
theorem ObAt.cl {l : Addr} {o : Ob} (h : ObAt K H Hb l o) : ObAt K H (cl Hb) l o := by
  cases o with
  | lst ds =>
    obtain ⟨xs, h1, h2⟩ := h
    exact ⟨xs, h1, RepL.cl _ _ h2⟩
theorem Rel.own_some (r : Rel K ρ σ H Hb) {l : Addr} (h : Own ρ σ l) : H l ≠ none ∧ Hb l = none := by
  obtain ⟨i, o, p, h1, h2⟩ := h
  obtain ⟨l', h3, h4, h5⟩ := r.own i o p h1
  rw [h2] at h3; cases h3
  exact ⟨h4.some, h5⟩
theorem Step.owA (s : Step K ρ σ H Hb ρ' σ' H' Hb') (a : Addr) (h : Own ρ' σ' a) : Own ρ σ a ∨ H a = none := by
  obtain ⟨p, h⟩ := h.f
  exact (s.ow p a h).elim (fun z => .inl z.own) fun z => .inr z.2
theorem Step.refl (r : Rel K ρ σ H Hb) : Step K ρ σ H Hb ρ σ H Hb := ⟨r, Evl.Ex.refl _, fun _ _ h _ _ => h, fun _ _ h _ => h, fun _ _ h => .inl h, fun _ h => h⟩
theorem Step.trans (a : Step K ρ σ H Hb ρ1 σ1 H1 Hb1) (b : Step K ρ1 σ1 H1 Hb1 ρ2 σ2 H2 Hb2) : Step K ρ σ H Hb ρ2 σ2 H2 Hb2 where
  rel := b.rel
  ext := a.ext.trans b.ext
  kp := fun c o h n m => b.kp c o (a.kp c o h n m) (fun z => (a.owA c z).elim n fun q => by rw [h] at q; cases q) m
  nb := fun c h h' n => by
    have n1 : ¬ Own ρ1 σ1 c := fun z => (a.owA c z).elim n h
    refine b.nb c (fun q => h (a.al c q)) (a.nb c h h' n) n1
  ow := fun p c z => by
    rcases b.ow p c z with z | z
    · exact a.ow p c z
    · exact .inr ⟨z.1, a.al c z.2⟩
  al := fun c z => a.al c (b.al c z)
theorem Keep.refl (ρ : Rho) : Keep ρ ρ := ⟨rfl, fun _ h => h, fun _ _ _ h => h, fun _ o _ h => .inl ⟨o, h⟩⟩
theorem Keep.trans (a : Keep ρ ρ1) (b : Keep ρ1 ρ2) : Keep ρ ρ2 where
  len := b.len.trans a.len
  non := fun i h => b.non i (a.non i h)
  val := fun i d p h => b.val i d p (a.val i d p h)
  own := fun i o p h => by
    rcases a.own i o p h with ⟨o', h1⟩ | ⟨d, h1⟩
    · exact b.own i o' p h1
    · exact .inr ⟨d, b.val i d p h1⟩
theorem Keep.back (a : Keep ρ ρ1) {i : Nat} {o : Ob} {p : Bool} (h : ρ1[i]? = some (.own o p)) : ∃ o', ρ[i]? = some (.own o' p) := by
  have hi : i < ρ.length := by rw [← a.len]; exact (List.getElem?_eq_some_iff.mp h).1
  have e : ρ[i]? = some ρ[i] := List.getElem?_eq_getElem hi
  cases q : ρ[i] with
  | non => rw [q] at e; rw [a.non i e] at h; cases h
  | val d p' => rw [q] at e; rw [a.val i d p' e] at h; cases h
  | own o' p' =>
    rw [q] at e
    rcases a.own i o' p' e with ⟨o2, h1⟩ | ⟨d, h1⟩
    · rw [h1] at h; cases h; exact ⟨o', e⟩
    · rw [h1] at h; cases h
theorem Keep.own_sub (a : Keep ρ ρ1) {l : Addr} (h : Own ρ1 σ l) : Own ρ σ l := by
  obtain ⟨i, o, p, h1, h2⟩ := h
  obtain ⟨o', h3⟩ := a.back h1
  exact ⟨i, o', p, h3, h2⟩
theorem Keep.ownF_sub (a : Keep ρ ρ1) {p : Bool} {l : Addr} (h : OwnF ρ1 σ p l) : OwnF ρ σ p l := by
  obtain ⟨i, o, h1, h2⟩ := h
  obtain ⟨o', h3⟩ := a.back h1
  exact ⟨i, o', h3, h2⟩
theorem Keep.pin (a : Keep ρ ρ1) : Pin ρ σ ρ1 σ := ⟨a.len, fun i d h => ⟨a.val i d true h, rfl⟩, fun i o h => ⟨a.own i o true h, rfl⟩⟩
theorem Pin.refl : Pin ρ σ ρ σ := (Keep.refl ρ).pin
theorem Pin.trans (a : Pin ρ σ ρ1 σ1) (b : Pin ρ1 σ1 ρ2 σ2) : Pin ρ σ ρ2 σ2 where
  len := b.len.trans a.len
  val := fun i d h => by
    obtain ⟨h1, h2⟩ := a.val i d h
    obtain ⟨h3, h4⟩ := b.val i d h1
    exact ⟨h3, h4.trans h2⟩
  own := fun i o h => by
    obtain ⟨h1, h2⟩ := a.own i o h
    rcases h1 with ⟨o', h1⟩ | ⟨d, h1⟩
    · obtain ⟨h3, h4⟩ := b.own i o' h1
      exact ⟨h3, h4.trans h2⟩
    · obtain ⟨h3, h4⟩ := b.val i d h1
      exact ⟨.inr ⟨d, h3⟩, h4.trans h2⟩
/-- the heap grows, all objects stay; the base grows by new ones -/
theorem Rel.grow (r : Rel K ρ σ H Hb) (e1 : Ex H H') (e2 : Ex Hb Hb') (e3 : Ex Hb' H') (nw : ∀ a, H a ≠ none → Hb' a = Hb a) : Step K ρ σ H Hb ρ σ H' (cl Hb') where
  rel := ⟨cl_ex e3, r.len, fun i d p h => let ⟨v, h1, h2⟩ := r.val i d p h; ⟨v, h1, Rep.mono (ex_cl r.nt e2) d v h2⟩, fun i o p h => by
    obtain ⟨l, h1, h2, h3⟩ := r.own i o p h
    have hl := h2.some
    refine ⟨l, h1, h2.mono ?_ (ex_cl r.nt e2), cl_none ((nw l hl).trans h3)⟩
    cases q : H l with
    | none => exact absurd q hl
    | some o => exact e1 l o q, r.sep, cl_nt, r.tb.ext e1⟩
  ext := ex_cl r.nt e2
  kp := fun a o h _ _ => e1 a o h
  nb := fun a h h' _ => cl_none ((nw a h).trans h')
  ow := fun p a h => .inl h
  al := fun a h => Evl.fresh_back e1 h
end

/-! ## Results of expressions -/
inductive R where
  | val (d : D) | new (o : Ob) | own (i : Nat)
inductive Rs (α : Type) where
  | ok (a : α) (ρ : Rho) | bad
def Rs.bind {α β : Type} (m : Rs α) (k : α → Rho → Rs β) : Rs β := match m with
  | .ok a ρ => k a ρ
  | .bad => .bad
theorem Rs.bind_ok {α β : Type} (a : α) (ρ : Rho) (k : α → Rho → Rs β) : (Rs.ok a ρ).bind k = k a ρ := rfl
theorem Rs.bind_bad {α β : Type} (k : α → Rho → Rs β) : (Rs.bad : Rs α).bind k = .bad := rfl
/-- an option, bad where there is none -/
def Rs.opt {α β : Type} (m : Option α) (k : α → Rs β) : Rs β := match m with
  | some a => k a
  | none => .bad
theorem Rs.opt_some {α β : Type} (a : α) (k : α → Rs β) : Rs.opt (some a) k = k a := rfl
theorem Rs.opt_none {α β : Type} (k : α → Rs β) : Rs.opt (none : Option α) k = .bad := rfl
abbrev SE := Rho → Rs R
def ResAt (K : Fg) (ρ : Rho) (σ : L2.St) (H Hb : Hp) : R → V → Prop
  | .val d, v => Rep K Hb d v
  | .new o, v => ∃ l, v = .ref l ∧ ObAt K H Hb l o ∧ Hb l = none ∧ ¬ Own ρ σ l
  | .own i, v => σ[i]? = some (some v) ∧ ((∃ o p, ρ[i]? = some (.own o p)) ∨ ∃ d p, ρ[i]? = some (.val d p))
def Fresh (H : Hp) : R → V → Prop
  | .new _, v => ∀ l, v = .ref l → H l = none
  | _, _ => True
def WpE (K : Fg) (ρ : Rho) (σ : L2.St) (H Hb : Hp) (m : Rs R) (Q : VK) : Prop := match m with
  | .ok r ρ' => ∀ v H' Hb', Step K ρ σ H Hb ρ' σ H' Hb' → Keep ρ ρ' → ResAt K ρ' σ H' Hb' r v → Fresh H r v → Q v H'
  | .bad => False
def tE (K : Fg) (f : SE) : TE := fun σ H Q => ∃ ρ Hb, Rel K ρ σ H Hb ∧ WpE K ρ σ H Hb (f ρ) Q
def tT (K : Fg) (f : SE) : TT := fun σ H Q => ∃ ρ Hb, Rel K ρ σ H Hb ∧ match f ρ with
  | .ok (.val (.bl b)) ρ' => ∀ H' Hb', Step K ρ σ H Hb ρ' σ H' Hb' → Keep ρ ρ' → Q b H'
  | _ => False
structure DE (X : Cx) (e : Expr) (f : SE) : Prop where
  pe : PE X e (tE X.K f)
  pt : PT X e (tT X.K f)
theorem PE.imp {X : Cx} {e : Expr} {t u : TE} (h : PE X e t) (k : ∀ σ H Q, u σ H Q → t σ H Q) : PE X e u := ⟨fun pins s σ H Q I q => h.run pins s σ H Q I (k σ H Q q)⟩
theorem PT.imp {X : Cx} {e : Expr} {t u : TT} (h : PT X e t) (k : ∀ σ H Q, u σ H Q → t σ H Q) : PT X e u := ⟨fun pins s σ H Q I q => h.run pins s σ H Q I (k σ H Q q)⟩
theorem PA.imp {X : Cx} {e : List Expr} {t u : TA} (h : PA X e t) (k : ∀ σ H Q, u σ H Q → t σ H Q) : PA X e u := ⟨fun pos pins s σ H Q I q => h.run pos pins s σ H Q I (k σ H Q q)⟩
theorem PS.imp {X : Cx} {e : Stmt} {t u : TS} (h : PS X e t) (k : ∀ D σ H, u D σ H → t D σ H) : PS X e u := ⟨fun pins s σ H D I q => h.run pins s σ H D I (k D σ H q)⟩
theorem PSs.imp {X : Cx} {e : List Stmt} {t u : TS} (h : PSs X e t) (k : ∀ D σ H, u D σ H → t D σ H) : PSs X e u := ⟨fun pins s σ H D I q => h.run pins s σ H D I (k D σ H q)⟩

section
variable {K : Fg} {ρ ρ1 ρ2 ρ' : Rho} {σ σ1 σ2 σ' : L2.St} {H H1 H2 H' Hb Hb1 Hb2 Hb' : Hp} {r : R} {v : V}
theorem ResAt.step (h : ResAt K ρ σ H Hb r v) (s : Step K ρ σ H Hb ρ' σ H' Hb') (k : Keep ρ ρ') : ResAt K ρ' σ H' Hb' r v := by
  cases r with
  | val d => exact Rep.mono s.ext d v h
  | new o =>
    obtain ⟨l, rfl, h1, h2, h3⟩ := h
    have hl := h1.some
    refine ⟨l, rfl, h1.mono ?_ s.ext, s.nb l hl h2 h3, fun z => h3 (k.own_sub z)⟩
    cases q : H l with
    | none => exact absurd q hl
    | some o => exact s.kp l o q h3 (h1.ntb q)
  | own i =>
    obtain ⟨h1, h2⟩ := h
    refine ⟨h1, ?_⟩
    rcases h2 with ⟨o, p, h2⟩ | ⟨d, p, h2⟩
    · rcases k.own i o p h2 with ⟨o', h3⟩ | ⟨d, h3⟩
      · exact .inl ⟨o', p, h3⟩
      · exact .inr ⟨d, p, h3⟩
    · exact .inr ⟨d, p, k.val i d p h2⟩
theorem Fresh.back (h : Fresh H1 r v) (s : Step K ρ σ H Hb ρ1 σ1 H1 Hb1) : Fresh H r v := by
  cases r with
  | new o => exact fun l e => s.al l (h l e)
  | _ => trivial
/-- a chain of two -/
theorem WpE.bind {m : Rs R} {Q : VK} (h : WpE K ρ1 σ H1 Hb1 m Q) (s : Step K ρ σ H Hb ρ1 σ H1 Hb1) (k : Keep ρ ρ1) : ∀ r ρ2, m = .ok r ρ2 → ∀ v H' Hb', Step K ρ1 σ H1 Hb1 ρ2 σ H' Hb' → Keep ρ1 ρ2 → ResAt K ρ2 σ H' Hb' r v → Fresh H1 r v → Q v H' := by
  intro r ρ2 e
  subst e
  exact h
end
end Sa

namespace Sa
open PySem L2
open Evl (Ex)

/-! ## Freezing: a result as data -/
def frz : R → Rho → Option (D × Rho)
  | .val d, ρ => some (d, ρ)
  | .new (.lst ds), ρ => some (.lst ds, ρ)
  | .own i, ρ => match ρ[i]? with
    | some (.own (.lst ds) p) => some (.lst ds, ρ.set i (.val (.lst ds) p))
    | some (.val d _) => some (d, ρ)
    | _ => none
def frzs : List R → Rho → Option (List D × Rho)
  | [], ρ => some ([], ρ)
  | r :: rs, ρ => (frz r ρ).bind fun p => (frzs rs p.2).bind fun q => some (p.1 :: q.1, q.2)

/-! ## Lists of results -/
def ResL (K : Fg) (ρ : Rho) (σ : L2.St) (H Hb : Hp) : List R → List V → Prop
  | [], vs => vs = []
  | r :: rs, vs => ∃ v t, vs = v :: t ∧ ResAt K ρ σ H Hb r v ∧ ResL K ρ σ H Hb rs t
def FreshL (H : Hp) : List R → List V → Prop
  | r :: rs, v :: vs => Fresh H r v ∧ FreshL H rs vs
  | _, _ => True
def NotNew (v : V) : List R → List V → Prop
  | .new _ :: rs, w :: ws => v ≠ w ∧ NotNew v rs ws
  | _ :: rs, _ :: ws => NotNew v rs ws
  | _, _ => True
/-- the new ones stand apart -/
def Apart : List R → List V → Prop
  | .new _ :: rs, v :: vs => NotNew v rs vs ∧ Apart rs vs
  | _ :: rs, _ :: vs => Apart rs vs
  | _, _ => True
section
variable {K : Fg} {ρ ρ0 ρ1 ρ2 ρ' : Rho} {σ σ0 σ1 σ2 σ' : L2.St} {H H0 H1 H2 H' Hb Hb0 Hb1 Hb2 Hb' : Hp} {r : R} {v : V}
theorem ResL.len : ∀ {rs : List R} {vs : List V}, ResL K ρ σ H Hb rs vs → rs.length = vs.length
  | [], _, h => by rw [show _ = _ from h]; rfl
  | _ :: _, _, h => by
    obtain ⟨v, t, rfl, _, h2⟩ := h
    simp [ResL.len h2]
theorem ResL.step : ∀ {rs : List R} {vs : List V}, ResL K ρ σ H Hb rs vs → Step K ρ σ H Hb ρ' σ H' Hb' → Keep ρ ρ' → ResL K ρ' σ H' Hb' rs vs
  | [], _, h, _, _ => h
  | _ :: _, _, h, s, k => by
    obtain ⟨v, t, rfl, h1, h2⟩ := h
    exact ⟨v, t, rfl, h1.step s k, ResL.step h2 s k⟩
theorem FreshL.back : ∀ {rs : List R} {vs : List V}, FreshL H1 rs vs → Step K ρ σ H Hb ρ1 σ1 H1 Hb1 → FreshL H rs vs
  | [], _, _, _ => by unfold FreshL; trivial
  | _ :: _, [], _, _ => by unfold FreshL; trivial
  | _ :: _, _ :: _, h, s => ⟨h.1.back s, FreshL.back h.2 s⟩
theorem notNew_of {l : Addr} (hl : H l ≠ none) : ∀ {rs : List R} {vs : List V}, FreshL H rs vs → NotNew (.ref l) rs vs
  | [], _, _ => by unfold NotNew; trivial
  | r :: _, [], _ => by unfold NotNew; cases r <;> trivial
  | r :: rs, w :: ws, h => by
    have t := notNew_of hl h.2
    cases r with
    | new o => exact ⟨fun e => hl (h.1 l e.symm), t⟩
    | val d => exact t
    | own i => exact t
theorem Apart.tail {r : R} {rs : List R} {v : V} {vs : List V} (h : Apart (r :: rs) (v :: vs)) : Apart rs vs := by
  cases r with
  | new o => exact h.2
  | val d => exact h
  | own i => exact h

/-- one result frozen -/
theorem frz_ok (s : Step K ρ0 σ0 H0 Hb0 ρ σ H Hb) (hr : ResAt K ρ σ H Hb r v) (hf : Fresh H0 r v) {d : D} (e : frz r ρ = some (d, ρ')) :
    ∃ Hb', Step K ρ0 σ0 H0 Hb0 ρ' σ H Hb' ∧ Keep ρ ρ' ∧ Ex Hb Hb' ∧ Rep K Hb' d v ∧
      (∀ a, Hb' a ≠ none → Hb a ≠ none ∨ (v = .ref a)) ∧
      ∀ r2 v2, ResAt K ρ σ H Hb r2 v2 → (∀ o o', r = .new o → r2 = .new o' → v ≠ v2) → ResAt K ρ' σ H Hb' r2 v2 := by
  cases r with
  | val d0 =>
    cases e
    exact ⟨Hb, s, Keep.refl _, Evl.Ex.refl _, hr, fun a h => .inl h, fun _ _ h _ => h⟩
  | new o =>
    cases o with
    | lst ds =>
      cases e
      obtain ⟨l, rfl, ⟨xs, h1, h2⟩, h3, h4⟩ := hr
      have hl0 : H0 l = none := hf l rfl
      have ex1 : Ex Hb (upd Hb l (.lst xs)) := Evl.Ex.new h3
      have ex2 : Ex (upd Hb l (.lst xs)) H := fun a o q => by
        by_cases z : a = l
        · subst z; rw [upd_same] at q; rw [← q]; exact h1
        · rw [upd_ne z] at q; exact s.rel.ex a o q
      have nl : ∀ (i : Nat) o p l', ρ[i]? = some (.own o p) → σ[i]? = some (some (.ref l')) → l' ≠ l := fun i o p l' a b z => h4 ⟨i, o, p, a, z ▸ b⟩
      have rl : Rel K ρ σ H (upd Hb l (.lst xs)) := ⟨ex2, s.rel.len, fun i d p h => let ⟨w, a, b⟩ := s.rel.val i d p h; ⟨w, a, Rep.mono ex1 d w b⟩,
        fun i o p h => let ⟨l', a, b, c⟩ := s.rel.own i o p h; ⟨l', a, b.mono rfl ex1, by rw [upd_ne (nl i o p l' h a)]; exact c⟩, s.rel.sep, nt_lst s.rel.nt, s.rel.tb⟩
      refine ⟨upd Hb l (.lst xs), ⟨rl, s.ext.trans ex1, s.kp, fun a q1 q2 q3 => ?_, s.ow, s.al⟩, Keep.refl _, ex1, ⟨l, xs, rfl, Evl.sq_of upd_same, RepL.mono ex1 _ _ h2⟩, fun a q => ?_, fun r2 v2 h ne => ?_⟩
      · have z : a ≠ l := fun z => q1 (z ▸ hl0)
        rw [upd_ne z]; exact s.nb a q1 q2 q3
      · by_cases z : a = l
        · exact .inr (by rw [z])
        · rw [upd_ne z] at q; exact .inl q
      · cases r2 with
        | val d2 => exact Rep.mono ex1 d2 v2 h
        | new o2 =>
          obtain ⟨l2, rfl, a, b, c⟩ := h
          have z : l2 ≠ l := fun z => ne (.lst ds) o2 rfl rfl (by rw [z])
          exact ⟨l2, rfl, a.mono rfl ex1, by rw [upd_ne z]; exact b, c⟩
        | own j => exact h
  | own i =>
    dsimp only [frz] at e
    obtain ⟨hs, hst⟩ := hr
    cases q : ρ[i]? with
    | none => rw [q] at e; cases e
    | some sl =>
      rw [q] at e
      cases sl with
      | non => cases e
      | val d0 p =>
        cases e
        obtain ⟨w, a, b⟩ := s.rel.val i d p q
        rw [hs] at a; cases a
        exact ⟨Hb, s, Keep.refl _, Evl.Ex.refl _, b, fun a h => .inl h, fun _ _ h _ => h⟩
      | own o p =>
        cases o with
        | lst ds =>
          cases e
          obtain ⟨l, h0, ⟨xs, h1, h2⟩, h3⟩ := s.rel.own i _ p q
          rw [hs] at h0; cases h0
          have hi : i < ρ.length := (List.getElem?_eq_some_iff.mp q).1
          have ex1 : Ex Hb (upd Hb l (.lst xs)) := Evl.Ex.new h3
          have ex2 : Ex (upd Hb l (.lst xs)) H := fun a o q => by
            by_cases z : a = l
            · subst z; rw [upd_same] at q; rw [← q]; exact h1
            · rw [upd_ne z] at q; exact s.rel.ex a o q
          have rp : Rep K (upd Hb l (.lst xs)) (.lst ds) (.ref l) := ⟨l, xs, rfl, Evl.sq_of upd_same, RepL.mono ex1 _ _ h2⟩
          have oo : ∀ (j : Nat) o p', (ρ.set i (.val (.lst ds) p))[j]? = some (.own o p') → j ≠ i ∧ ρ[j]? = some (.own o p') := fun j o p' h => by
            by_cases z : i = j
            · subst z; rw [List.getElem?_set_self hi] at h; cases h
            · rw [List.getElem?_set_ne z] at h; exact ⟨fun y => z y.symm, h⟩
          have rl : Rel K (ρ.set i (.val (.lst ds) p)) σ H (upd Hb l (.lst xs)) := by
            refine ⟨ex2, by rw [List.length_set]; exact s.rel.len, fun j d p' h => ?_, fun j o p' h => ?_, fun j k o p1 o' p2 l' a b c d => s.rel.sep j k o p1 o' p2 l' (oo j _ _ a).2 (oo k _ _ b).2 c d, nt_lst s.rel.nt, s.rel.tb⟩
            · by_cases z : i = j
              · subst z; rw [List.getElem?_set_self hi] at h; cases h
                exact ⟨_, hs, rp⟩
              · rw [List.getElem?_set_ne z] at h
                obtain ⟨w, a, b⟩ := s.rel.val j d p' h
                exact ⟨w, a, Rep.mono ex1 d w b⟩
            · obtain ⟨ne, h'⟩ := oo j o p' h
              obtain ⟨l', a, b, c⟩ := s.rel.own j o p' h'
              have z : l' ≠ l := fun z => ne (s.rel.sep j i o p' _ p l h' q (z ▸ a) hs)
              exact ⟨l', a, b.mono rfl ex1, by rw [upd_ne z]; exact c⟩
          have kp : Keep ρ (ρ.set i (.val (.lst ds) p)) := by
            refine ⟨by rw [List.length_set], fun j h => ?_, fun j d p' h => ?_, fun j o p' h => ?_⟩
            · rw [List.getElem?_set_ne (fun z => by subst z; rw [q] at h; cases h)]; exact h
            · rw [List.getElem?_set_ne (fun z => by subst z; rw [q] at h; cases h)]; exact h
            · by_cases z : i = j
              · subst z
                rw [q] at h; cases h
                exact .inr ⟨_, List.getElem?_set_self hi⟩
              · rw [List.getElem?_set_ne z]; exact .inl ⟨o, h⟩
          have owl : Own ρ σ l := ⟨i, _, p, q, hs⟩
          refine ⟨upd Hb l (.lst xs), ⟨rl, s.ext.trans ex1, s.kp, fun a q1 q2 q3 => ?_, fun p a z => s.ow p a (kp.ownF_sub z), s.al⟩, kp, ex1, rp, fun a q => ?_, fun r2 v2 h ne => ?_⟩
          · by_cases z : a = l
            · subst z
              rcases s.owA a owl with w | w
              · exact absurd w q3
              · exact absurd w q1
            · rw [upd_ne z]; exact s.nb a q1 q2 q3
          · by_cases z : a = l
            · exact .inr (by rw [z])
            · rw [upd_ne z] at q; exact .inl q
          · cases r2 with
            | val d2 => exact Rep.mono ex1 d2 v2 h
            | new o2 =>
              obtain ⟨l2, rfl, a, b, c⟩ := h
              have z : l2 ≠ l := fun z => c (z ▸ owl)
              exact ⟨l2, rfl, a.mono rfl ex1, by rw [upd_ne z]; exact b, fun w => c (kp.own_sub w)⟩
            | own j =>
              obtain ⟨a, b⟩ := h
              refine ⟨a, ?_⟩
              rcases b with ⟨o, p', b⟩ | ⟨d, p', b⟩
              · rcases kp.own j o p' b with ⟨o', z⟩ | ⟨d, z⟩
                · exact .inl ⟨o', p', z⟩
                · exact .inr ⟨d, p', z⟩
              · exact .inr ⟨d, p', kp.val j d p' b⟩
theorem frzs_ok : ∀ {rs : List R} {vs : List V} {ρ ρ' : Rho} {Hb : Hp} {ds : List D}, Step K ρ0 σ0 H0 Hb0 ρ σ H Hb → ResL K ρ σ H Hb rs vs → FreshL H0 rs vs → Apart rs vs → frzs rs ρ = some (ds, ρ') →
    ∃ Hb', Step K ρ0 σ0 H0 Hb0 ρ' σ H Hb' ∧ Keep ρ ρ' ∧ Ex Hb Hb' ∧ RepL K Hb' ds vs
  | [], vs, ρ, ρ', Hb, ds, s, h, _, _, e => by
    cases e
    rw [show vs = [] from h]
    exact ⟨Hb, s, Keep.refl _, Evl.Ex.refl _, RepL.nil⟩
  | r :: rs, vs, ρ, ρ', Hb, ds, s, h, f, ap, e => by
    obtain ⟨v, t, rfl, h1, h2⟩ := h
    simp only [frzs] at e
    cases e1 : frz r ρ with
    | none => simp only [e1, Option.bind_none] at e; cases e
    | some p =>
      obtain ⟨d, ρ1⟩ := p
      simp only [e1, Option.bind_some] at e
      obtain ⟨Hb1, s1, k1, x1, rp, _, tr⟩ := frz_ok s h1 f.1 e1
      have h2' : ResL K ρ1 σ H Hb1 rs t := by
        have go : ∀ (rs : List R) (t : List V), ResL K ρ σ H Hb rs t → (∀ o, r = .new o → NotNew v rs t) → ResL K ρ1 σ H Hb1 rs t := by
          intro rs
          induction rs with
          | nil => exact fun t h _ => h
          | cons r2 rs ih =>
            intro t h nn
            obtain ⟨v2, t2, rfl, a, b⟩ := h
            refine ⟨v2, t2, rfl, tr r2 v2 a (fun o o' q1 q2 => ?_), ih t2 b fun o q => ?_⟩
            · have w := nn o q1
              rw [q2] at w
              exact w.1
            · have w := nn o q
              cases r2 with
              | new o2 => exact w.2
              | val d2 => exact w
              | own j => exact w
        refine go rs t h2 fun o q => ?_
        subst q
        exact ap.1
      cases e2 : frzs rs ρ1 with
      | none => simp only [e2, Option.bind_none] at e; cases e
      | some p =>
        obtain ⟨ds', ρ2⟩ := p
        simp only [e2, Option.bind_some] at e
        cases e
        obtain ⟨Hb2, s2, k2, x2, rl⟩ := frzs_ok s1 h2' f.2 ap.tail e2
        exact ⟨Hb2, s2, k1.trans k2, x1.trans x2, RepL.cons (Rep.mono x2 _ _ rp) rl⟩
end

/-! ## Argument lists -/
def evs : List SE → Rho → Rs (List R)
  | [], ρ => .ok [] ρ
  | f :: fs, ρ => (f ρ).bind fun r ρ1 => (evs fs ρ1).bind fun rs ρ2 => .ok (r :: rs) ρ2
def WpA (K : Fg) (ρ : Rho) (σ : L2.St) (H Hb : Hp) (m : Rs (List R)) (Q : List V → Hp → Prop) : Prop := match m with
  | .ok rs ρ' => ∀ vs H' Hb', Step K ρ σ H Hb ρ' σ H' Hb' → Keep ρ ρ' → ResL K ρ' σ H' Hb' rs vs → FreshL H rs vs → Apart rs vs → Q vs H'
  | .bad => False
def tA (K : Fg) (fs : List SE) : TA := fun σ H Q => ∃ ρ Hb, Rel K ρ σ H Hb ∧ WpA K ρ σ H Hb (evs fs ρ) Q
theorem tA_nil {K : Fg} {σ : L2.St} {H : Hp} {Q : List V → Hp → Prop} (h : tA K [] σ H Q) : Q [] H := by
  obtain ⟨ρ, Hb, rel, w⟩ := h
  exact w [] H Hb (.refl rel) (.refl ρ) rfl trivial trivial
theorem tA_cons {K : Fg} {f : SE} {fs : List SE} {σ : L2.St} {H : Hp} {Q : List V → Hp → Prop} (h : tA K (f :: fs) σ H Q) : tE K f σ H fun x H1 => tA K fs σ H1 fun xs H2 => Q (x :: xs) H2 := by
  obtain ⟨ρ, Hb, rel, w⟩ := h
  refine ⟨ρ, Hb, rel, ?_⟩
  simp only [evs] at w
  cases e : f ρ with
  | bad => simp only [e, Rs.bind_bad] at w; exact w.elim
  | ok r ρ1 =>
    simp only [e, Rs.bind_ok] at w
    intro v H1 Hb1 s1 k1 r1 f1
    refine ⟨ρ1, Hb1, s1.rel, ?_⟩
    cases e2 : evs fs ρ1 with
    | bad => simp only [e2, Rs.bind_bad] at w; exact w.elim
    | ok rs ρ2 =>
      simp only [e2, Rs.bind_ok] at w
      intro vs H2 Hb2 s2 k2 r2 f2 a2
      refine w (v :: vs) H2 Hb2 (s1.trans s2) (k1.trans k2) ⟨v, vs, rfl, r1.step s2 k2, r2⟩ ⟨f1, FreshL.back f2 s1⟩ ?_
      cases r with
      | new o =>
        obtain ⟨l, rfl, q, _, _⟩ := r1
        exact ⟨notNew_of q.some f2, a2⟩
      | val d => exact a2
      | own i => exact a2
abbrev DA (X : Cx) (es : List Expr) (fs : List SE) : Prop := PA X es (tA X.K fs)
theorem da_nil {X : Cx} : DA X [] [] := PA.imp pa_nil fun σ H Q h => tA_nil h
theorem da_cons {X : Cx} {e : Expr} {es : List Expr} {f : SE} {fs : List SE} (h : DE X e f) (t : DA X es fs) (hs : starEach (e :: es) X.env = (false, eval e X.env) :: starEach es X.env := by rfl) : DA X (e :: es) (f :: fs) :=
  PA.imp (pa_cons h.pe t hs) fun σ H Q h => tA_cons h
theorem DE.of {X : Cx} {e : Expr} {f : SE} (h : PE X e (tE X.K f)) (he : ∀ whole, isTrue e X.env whole = (do let v ← whole; standAt e.pos; holding [v] (truthy v)) := by intro _; rfl) : DE X e f :=
  ⟨h, PT.imp (pt_val h he) fun σ H Q h => by
    obtain ⟨ρ, Hb, rel, w⟩ := h
    refine ⟨ρ, Hb, rel, ?_⟩
    cases q : f ρ with
    | bad => rw [q] at w; exact w.elim
    | ok r ρ1 =>
      rw [q] at w
      intro v H1 Hb1 s1 k1 r1 f1
      match r, w, r1 with
      | .val (.bl b), w, r1 => exact ⟨b, r1, w H1 Hb1 s1 k1⟩⟩

/-! ## Views, natives -/
def view (ρ : Rho) : R → Option D
  | .val d => some d
  | .new (.lst ds) => some (.lst ds)
  | .own i => match ρ[i]? with
    | some (.own (.lst ds) _) => some (.lst ds)
    | some (.val d _) => some d
    | _ => none
def views (ρ : Rho) : List R → Option (List D)
  | [] => some []
  | r :: rs => (view ρ r).bind fun d => (views ρ rs).bind fun ds => some (d :: ds)
/-- what may be read as d: data, or a list whose items are data -/
def Vw (K : Fg) (H Hb : Hp) (d : D) (v : V) : Prop := Rep K Hb d v ∨ ∃ ds l xs, d = .lst ds ∧ v = .ref l ∧ H l = some (.lst xs) ∧ RepL K Hb ds xs
def VwL (K : Fg) (H Hb : Hp) : List D → List V → Prop
  | [], vs => vs = []
  | d :: ds, vs => ∃ v t, vs = v :: t ∧ Vw K H Hb d v ∧ VwL K H Hb ds t
section
variable {K : Fg} {ρ ρ1 ρ' : Rho} {σ σ1 : L2.St} {H H1 H' Hb Hb1 Hb' : Hp} {r : R} {v : V}
theorem Vw.of_rep {d : D} (h : Rep K Hb d v) : Vw K H Hb d v := .inl h
theorem ResAt.vw (rel : Rel K ρ σ H Hb) (h : ResAt K ρ σ H Hb r v) {d : D} (e : view ρ r = some d) : Vw K H Hb d v := by
  cases r with
  | val d0 => cases e; exact .inl h
  | new o =>
    cases o with
    | lst ds =>
      cases e
      obtain ⟨l, rfl, ⟨xs, a, b⟩, _⟩ := h
      exact .inr ⟨ds, l, xs, rfl, rfl, a, b⟩
  | own i =>
    obtain ⟨h1, _⟩ := h
    dsimp only [view] at e
    cases q : ρ[i]? with
    | none => rw [q] at e; cases e
    | some sl =>
      rw [q] at e
      cases sl with
      | non => cases e
      | val d0 p =>
        cases e
        obtain ⟨w, a, b⟩ := rel.val i d p q
        rw [h1] at a; cases a
        exact .inl b
      | own o p =>
        cases o with
        | lst ds =>
          cases e
          obtain ⟨l, a, ⟨xs, b, c⟩, _⟩ := rel.own i _ p q
          rw [h1] at a; cases a
          exact .inr ⟨ds, l, xs, rfl, rfl, b, c⟩
theorem ResL.vw (rel : Rel K ρ σ H Hb) : ∀ {rs : List R} {vs : List V} {ds : List D}, ResL K ρ σ H Hb rs vs → views ρ rs = some ds → VwL K H Hb ds vs
  | [], vs, ds, h, e => by cases e; exact h
  | r :: rs, vs, ds, h, e => by
    obtain ⟨v, t, rfl, a, b⟩ := h
    simp only [views] at e
    cases e1 : view ρ r with
    | none => simp only [e1, Option.bind_none] at e; cases e
    | some d =>
      simp only [e1, Option.bind_some] at e
      cases e2 : views ρ rs with
      | none => simp only [e2, Option.bind_none] at e; cases e
      | some ds' =>
        simp only [e2, Option.bind_some] at e; cases e
        exact ⟨v, t, rfl, a.vw rel e1, ResL.vw rel b e2⟩
/-- in the whole heap a view is data -/
theorem Vw.full {d : D} (ex : Ex Hb H) (h : Vw K H Hb d v) : Rep K H d v := by
  rcases h with h | ⟨ds, l, xs, rfl, rfl, a, b⟩
  · exact Rep.mono ex d v h
  · exact ⟨l, xs, rfl, Evl.sq_of a, RepL.mono ex _ _ b⟩
theorem Vw.lst {ds : List D} (ex : Ex Hb H) (h : Vw K H Hb (.lst ds) v) : ∃ a xs, v = .ref a ∧ SqL K H a xs ∧ RepL K Hb ds xs := by
  rcases h with ⟨a, xs, rfl, b, c⟩ | ⟨ds', l, xs, e, rfl, a, b⟩
  · exact ⟨a, xs, rfl, Evl.ex_l ex b, c⟩
  · cases e
    exact ⟨l, xs, rfl, Evl.sq_of a, b⟩
theorem Vw.rep {d : D} (h : Vw K H Hb d v) (n : ∀ ds, d ≠ .lst ds) : Rep K Hb d v := by
  rcases h with h | ⟨ds, l, xs, rfl, _⟩
  · exact h
  · exact absurd rfl (n ds)
theorem Vw.tup {ds : List D} (ex : Ex Hb H) (h : Vw K H Hb (.tup ds) v) : ∃ a xs, v = .ref a ∧ SqT K H a xs ∧ RepL K Hb ds xs := by
  obtain ⟨a, xs, rfl, b, c⟩ := h.rep fun _ => by simp
  exact ⟨a, xs, rfl, Evl.ex_t ex b, c⟩
theorem Vw.int {i : Int} (h : Vw K H Hb (.int i) v) : v = .int i := h.rep fun _ => by simp
theorem Vw.bl {i : Bool} (h : Vw K H Hb (.bl i) v) : v = .bl i := h.rep fun _ => by simp
theorem Vw.str {i : Str} (h : Vw K H Hb (.str i) v) : v = .str i := h.rep fun _ => by simp
theorem Vw.non (h : Vw K H Hb .non v) : v = .non := h.rep fun _ => by simp
end
/-- what a native gives: data, or a new list -/
inductive NO where
  | val (d : D) | new (o : Ob)
def NO.r : NO → R
  | .val d => .val d
  | .new o => .new o
abbrev NOp := List D → Option NO
def OutAt (K : Fg) (H H' Hb' : Hp) : NO → V → Prop
  | .val d, v => Rep K Hb' d v
  | .new o, v => ∃ l, v = .ref l ∧ H l = none ∧ ObAt K H' Hb' l o ∧ Hb' l = none
/-- what follows a native -/
def Kont (K : Fg) (H Hb : Hp) (out : NO) (Q : VK) : Prop := ∀ v H' Hb', Ex H H' → Ex Hb Hb' → Ex Hb' H' → (∀ a, H a ≠ none → Hb' a = Hb a) → OutAt K H H' Hb' out v → Q v H'
structure NatR (K : Fg) (r : List V → Hp → VK → Prop) (op : NOp) : Prop where
  run : ∀ ds vs H Hb out Q, Ex Hb H → VwL K H Hb ds vs → op ds = some out → Kont K H Hb out Q → r vs H Q
def sNat (op : NOp) (fs : List SE) : SE := fun ρ => (evs fs ρ).bind fun rs ρ' => Rs.opt (views ρ' rs) fun ds => Rs.opt (op ds) fun o => .ok o.r ρ'
theorem OutAt.res {K : Fg} {ρ : Rho} {σ : L2.St} {H H' Hb Hb' : Hp} {o : NO} {v : V} (rel : Rel K ρ σ H Hb) (h : OutAt K H H' Hb' o v) : ResAt K ρ σ H' Hb' o.r v ∧ Fresh H o.r v := by
  cases o with
  | val d => exact ⟨h, trivial⟩
  | new o =>
    obtain ⟨l, rfl, a, b, c⟩ := h
    refine ⟨⟨l, rfl, b, c, fun z => (rel.own_some z).1 a⟩, fun l' e => ?_⟩
    cases e
    exact a
theorem OutAt.cl {K : Fg} {H H' Hb' : Hp} {o : NO} {v : V} (h : OutAt K H H' Hb' o v) : OutAt K H H' (Sa.cl Hb') o v := by
  cases o with
  | val d => exact Rep.cl _ _ h
  | new o =>
    obtain ⟨l, e, a, b, c⟩ := h
    exact ⟨l, e, a, ObAt.cl b, cl_none c⟩
theorem nat_core {K : Fg} {r : List V → Hp → VK → Prop} {op : NOp} (n : NatR K r op) {fs : List SE} {σ : L2.St} {H : Hp} {Q : VK} (h : tE K (sNat op fs) σ H Q) : tA K fs σ H fun vs H1 => r vs H1 Q := by
  obtain ⟨ρ, Hb, rel, w⟩ := h
  refine ⟨ρ, Hb, rel, ?_⟩
  simp only [sNat] at w
  cases e : evs fs ρ with
  | bad => simp only [e, Rs.bind_bad] at w; exact w.elim
  | ok rs ρ1 =>
    simp only [e, Rs.bind_ok] at w
    intro vs H1 Hb1 s1 k1 r1 f1 _
    cases e2 : views ρ1 rs with
    | none => simp only [e2, Rs.opt_none] at w; exact w.elim
    | some ds =>
      simp only [e2, Rs.opt_some] at w
      cases e3 : op ds with
      | none =>
        simp only [e3, Rs.opt_none] at w
        exact w.elim
      | some o =>
        simp only [e3, Rs.opt_some] at w
        refine n.run ds vs H1 Hb1 o Q s1.rel.ex (r1.vw s1.rel e2) e3 fun v H2 Hb2 x1 x2 x3 nw oa => ?_
        have g := s1.rel.grow x1 x2 x3 nw
        obtain ⟨q1, q2⟩ := OutAt.res s1.rel oa.cl
        exact w v H2 (cl Hb2) (s1.trans g) k1 q1 (q2.back s1)
theorem nat1 {K : Fg} {r : V → Hp → VK → Prop} {op : NOp} (n : NatR K (fun vs H Q => ∃ x, vs = [x] ∧ r x H Q) op) {f : SE} {σ : L2.St} {H : Hp} {Q : VK} (h : tE K (sNat op [f]) σ H Q) : tE K f σ H fun x H1 => r x H1 Q := by
  have q := tA_cons (nat_core n h)
  obtain ⟨ρ, Hb, rel, w⟩ := q
  refine ⟨ρ, Hb, rel, ?_⟩
  cases e : f ρ with
  | bad => rw [e] at w; exact w.elim
  | ok r0 ρ1 =>
    rw [e] at w
    intro v H1 Hb1 s1 k1 r1 f1
    obtain ⟨x, e1, e2⟩ := tA_nil (w v H1 Hb1 s1 k1 r1 f1)
    cases e1
    exact e2
theorem tE_imp {K : Fg} {f : SE} {σ : L2.St} {H : Hp} {Q Q' : VK} (h : tE K f σ H Q) (k : ∀ v H', Q v H' → Q' v H') : tE K f σ H Q' := by
  obtain ⟨ρ, Hb, rel, w⟩ := h
  refine ⟨ρ, Hb, rel, ?_⟩
  cases e : f ρ with
  | bad => rw [e] at w; exact w.elim
  | ok r0 ρ1 =>
    rw [e] at w
    exact fun v H1 Hb1 s1 k1 r1 f1 => k _ _ (w v H1 Hb1 s1 k1 r1 f1)
theorem nat2 {K : Fg} {r : R2} {op : NOp} (n : NatR K (fun vs H Q => ∃ x y, vs = [x, y] ∧ r x y H Q) op) {f g : SE} {σ : L2.St} {H : Hp} {Q : VK} (h : tE K (sNat op [f, g]) σ H Q) : tOp r (tE K f) (tE K g) σ H Q := by
  refine tE_imp (tA_cons (nat_core n h)) fun x H1 q => ?_
  refine tE_imp (tA_cons q) fun y H2 q => ?_
  obtain ⟨x', y', e, q⟩ := tA_nil q
  cases e
  exact q
end Sa

namespace Sa
open PySem L2
open Evl (Ex)

/-! ## Natives -/
section
variable {K : Fg} {H Hb : Hp} {Q : VK} {v : V} {d : D} {ds es : List D} {xs ys : List V} {p : Addr} {vs : List V}
theorem Kont.dat (k : Kont K H Hb (.val d) Q) (ex : Ex Hb H) (h : Rep K Hb d v) : Q v H := k v H Hb (Evl.Ex.refl _) (Evl.Ex.refl _) ex (fun _ _ => rfl) h
theorem Kont.li (k : Kont K H Hb (.new (.lst ds)) Q) (ex : Ex Hb H) (hp : H p = none) (h : RepL K Hb ds xs) : Q (.ref p) (upd H p (.lst xs)) :=
  k (.ref p) (upd H p (.lst xs)) Hb (Evl.Ex.new hp) (Evl.Ex.refl _) (ex.trans (Evl.Ex.new hp)) (fun _ _ => rfl) ⟨p, rfl, hp, ⟨xs, upd_same, h⟩, Evl.fresh_back ex hp⟩
theorem Kont.tu (k : Kont K H Hb (.val (.tup ds)) Q) (ex : Ex Hb H) (hp : H p = none) (h : RepL K Hb ds xs) : Q (.ref p) (upd H p (.tup xs)) := by
  have hb := Evl.fresh_back ex hp
  refine k (.ref p) (upd H p (.tup xs)) (upd Hb p (.tup xs)) (Evl.Ex.new hp) (Evl.Ex.new hb) (fun a o q => ?_) (fun a q => ?_) ⟨p, xs, rfl, Evl.st_of upd_same, RepL.mono (Evl.Ex.new hb) _ _ h⟩
  · by_cases z : a = p
    · subst z; rw [upd_same] at q; rw [← q, upd_same]
    · rw [upd_ne z] at q; rw [upd_ne z]; exact ex a o q
  · rw [upd_ne (fun z => q (by rw [z]; exact hp))]
theorem VwL.one {d : D} (h : VwL K H Hb [d] vs) : ∃ v, vs = [v] ∧ Vw K H Hb d v := by
  obtain ⟨v, t, rfl, a, b⟩ := h
  rw [show t = [] from b]
  exact ⟨v, rfl, a⟩
theorem VwL.two {d e : D} (h : VwL K H Hb [d, e] vs) : ∃ v w, vs = [v, w] ∧ Vw K H Hb d v ∧ Vw K H Hb e w := by
  obtain ⟨v, t, rfl, a, b⟩ := h
  obtain ⟨w, rfl, c⟩ := VwL.one b
  exact ⟨v, w, rfl, a, c⟩
theorem VwL.nil (h : VwL K H Hb [] vs) : vs = [] := h
end

/-- sizes that the model can hold -/
def szOk (n : Nat) : Bool := decide (n ≤ 100000)
theorem szOk_le {n : Nat} (h : szOk n = true) : n ≤ sizeLine := Nat.le_trans (of_decide_eq_true h) (by decide)
theorem szOk_lt {n : Nat} (h : szOk n = true) : n < sizeLine := Nat.lt_of_le_of_lt (of_decide_eq_true h) (by decide)
def bits (i : Int) : Nat := Builtin.Int.intBits i

def guard' (b : Bool) (o : NO) : Option NO := if b = true then some o else none
theorem guard_some {b : Bool} {o o' : NO} (h : guard' b o = some o') : b = true ∧ o = o' := by
  unfold guard' at h
  split at h
  · rename_i hb; exact ⟨hb, Option.some.inj h⟩
  · cases h

def nAdd : NOp
  | [.int a, .int b] => some (.val (.int (a + b)))
  | [.str a, .str b] => guard' (szOk (a.length + b.length)) (.val (.str (a ++ b)))
  | [.tup a, .tup b] => guard' (szOk (a.length + b.length)) (.val (.tup (a ++ b)))
  | [.lst a, .lst b] => guard' (szOk (a.length + b.length)) (.new (.lst (a ++ b)))
  | _ => none
def nSub : NOp
  | [.int a, .int b] => some (.val (.int (a - b)))
  | _ => none
def nMul : NOp
  | [.int a, .int b] => guard' (decide ((bits a : Int) + (bits b : Int) ≤ 134217728)) (.val (.int (a * b)))
  | _ => none
def nDiv : NOp
  | [.int a, .int b] => guard' (decide (0 < b) && decide (b.natAbs.log2 < 9000)) (.val (.int (a / b)))
  | _ => none
def nMod : NOp
  | [.int a, .int b] => guard' (decide (0 < b)) (.val (.int (a % b)))
  | _ => none
def nPow : NOp
  | [.int a, .int b] => guard' (decide (0 ≤ b) && decide ((bits a : Int) * b ≤ 2 ^ 27)) (.val (.int (a ^ b.toNat)))
  | _ => none
def nNeg : NOp
  | [.int a] => some (.val (.int (-a)))
  | _ => none
def nLt : NOp
  | [.int a, .int b] => some (.val (.bl (decide (a < b))))
  | _ => none
def nLe : NOp
  | [.int a, .int b] => some (.val (.bl (decide (a ≤ b))))
  | _ => none
def nGt : NOp
  | [.int a, .int b] => some (.val (.bl (decide (b < a))))
  | _ => none
def nGe : NOp
  | [.int a, .int b] => some (.val (.bl (decide (b ≤ a))))
  | _ => none
mutual
def D.py : D → PyData
  | .non => .none
  | .bl b => .bool b
  | .int i => .int i
  | .str s => .str s
  | .tup ds => .tuple (D.pys ds)
  | .lst ds => .list (D.pys ds)
def D.pys : List D → List PyData
  | [] => []
  | d :: ds => D.py d :: D.pys ds
end
def D.shp (d : D) : Bool := SeqAt.shaped d.py
def D.eqv (d e : D) : Bool := PyData.eqv d.py e.py
def nEq : NOp
  | [a, b] => guard' (a.shp && b.shp) (.val (.bl (a.eqv b)))
  | _ => none
def nNe : NOp
  | [a, b] => guard' (a.shp && b.shp) (.val (.bl (!a.eqv b)))
  | _ => none
def D.isNon : D → Bool
  | .non => true
  | _ => false
def nIsN : NOp
  | [d] => some (.val (.bl d.isNon))
  | _ => none
def nNotN : NOp
  | [d] => some (.val (.bl (!d.isNon)))
  | _ => none
def nIdx : NOp
  | [.lst ds, .int i] => (atI ds i).map NO.val
  | [.tup ds, .int i] => (atI ds i).map NO.val
  | [.str z, .int i] => if szOk z.length = true then (atI z.cps.toList i).map fun c => NO.val (.str ⟨#[c]⟩) else none
  | _ => none
def nLen : NOp
  | [.lst ds] => some (.val (.int ds.length))
  | [.tup ds] => some (.val (.int ds.length))
  | [.str z] => guard' (szOk z.length) (.val (.int z.length))
  | _ => none
def nInt : NOp
  | [.int i] => some (.val (.int i))
  | [.bl b] => some (.val (.int (if b then 1 else 0)))
  | _ => none
def nAbs : NOp
  | [.int i] => some (.val (.int (if i < 0 then -i else i)))
  | _ => none
def D.ints? : List D → Option (List Int)
  | [] => some []
  | .int i :: ds => (D.ints? ds).map (i :: ·)
  | _ => none
def D.bls? : List D → Option (List Bool)
  | [] => some []
  | .bl i :: ds => (D.bls? ds).map (i :: ·)
  | _ => none
def D.strs? : List D → Option (List Str)
  | [] => some []
  | .str i :: ds => (D.strs? ds).map (i :: ·)
  | _ => none
theorem D.ints_eq : ∀ {ds : List D} {ns : List Int}, D.ints? ds = some ns → ds = ns.map D.int
  | [], _, h => by cases h; rfl
  | d :: ds, ns, h => by
    cases d with
    | int i =>
      simp only [D.ints?] at h
      cases e : D.ints? ds with
      | none => rw [e] at h; cases h
      | some ms =>
        rw [e] at h; cases h
        rw [D.ints_eq e]; rfl
    | _ => cases h
theorem D.bls_eq : ∀ {ds : List D} {ns : List Bool}, D.bls? ds = some ns → ds = ns.map D.bl
  | [], _, h => by cases h; rfl
  | d :: ds, ns, h => by
    cases d with
    | bl i =>
      simp only [D.bls?] at h
      cases e : D.bls? ds with
      | none => rw [e] at h; cases h
      | some ms =>
        rw [e] at h; cases h
        rw [D.bls_eq e]; rfl
    | _ => cases h
theorem D.ints_map : ∀ (ns : List Int), D.ints? (ns.map D.int) = some ns
  | [] => rfl
  | n :: ns => by simp only [List.map_cons, D.ints?, D.ints_map ns, Option.map_some]
theorem D.bls_map : ∀ (ns : List Bool), D.bls? (ns.map D.bl) = some ns
  | [] => rfl
  | n :: ns => by simp only [List.map_cons, D.bls?, D.bls_map ns, Option.map_some]
def maxL : List Int → Int
  | [] => 0
  | [a] => a
  | a :: b :: l => max a (maxL (b :: l))
def minL : List Int → Int
  | [] => 0
  | [a] => a
  | a :: b :: l => min a (minL (b :: l))
theorem maxL_mem : ∀ {l : List Int}, l ≠ [] → maxL l ∈ l
  | [], h => absurd rfl h
  | [a], _ => by simp [maxL]
  | a :: b :: l, _ => by
    have := maxL_mem (l := b :: l) (by simp)
    simp only [maxL]
    by_cases h : a ≤ maxL (b :: l)
    · rw [Int.max_eq_right h]; exact List.mem_cons_of_mem _ this
    · rw [Int.max_eq_left (by omega)]; exact List.mem_cons_self
theorem maxL_ge : ∀ {l : List Int} {y : Int}, y ∈ l → y ≤ maxL l
  | [], _, h => by simp at h
  | [a], y, h => by simp at h; subst h; simp [maxL]
  | a :: b :: l, y, h => by
    simp only [maxL]
    rcases List.mem_cons.mp h with rfl | h
    · exact Int.le_max_left _ _
    · exact Int.le_trans (maxL_ge h) (Int.le_max_right _ _)
theorem minL_mem : ∀ {l : List Int}, l ≠ [] → minL l ∈ l
  | [], h => absurd rfl h
  | [a], _ => by simp [minL]
  | a :: b :: l, _ => by
    have := minL_mem (l := b :: l) (by simp)
    simp only [minL]
    by_cases h : a ≤ minL (b :: l)
    · rw [Int.min_eq_left h]; exact List.mem_cons_self
    · rw [Int.min_eq_right (by omega)]; exact List.mem_cons_of_mem _ this
theorem minL_le : ∀ {l : List Int} {y : Int}, y ∈ l → minL l ≤ y
  | [], _, h => by simp at h
  | [a], y, h => by simp at h; subst h; simp [minL]
  | a :: b :: l, y, h => by
    simp only [minL]
    rcases List.mem_cons.mp h with rfl | h
    · exact Int.min_le_left _ _
    · exact Int.le_trans (Int.min_le_right _ _) (minL_le h)
theorem max_one {l : List Int} {m : Int} (h1 : m ∈ l) (h2 : ∀ y ∈ l, y ≤ m) : m = maxL l :=
  Int.le_antisymm (maxL_ge h1) (h2 _ (maxL_mem (fun e => by rw [e] at h1; simp at h1)))
theorem min_one {l : List Int} {m : Int} (h1 : m ∈ l) (h2 : ∀ y ∈ l, m ≤ y) : m = minL l :=
  Int.le_antisymm (h2 _ (minL_mem (fun e => by rw [e] at h1; simp at h1))) (minL_le h1)
def nMax1 : NOp
  | [.lst ds] => (D.ints? ds).bind fun ns => guard' (!ns.isEmpty) (.val (.int (maxL ns)))
  | _ => none
def nMin1 : NOp
  | [.lst ds] => (D.ints? ds).bind fun ns => guard' (!ns.isEmpty) (.val (.int (minL ns)))
  | _ => none
def nMax2 : NOp
  | [.int i, .int j] => some (.val (.int (if j > i then j else i)))
  | _ => none
def nMin2 : NOp
  | [.int i, .int j] => some (.val (.int (if j < i then j else i)))
  | _ => none
def nSum : NOp
  | [.lst ds] => (D.ints? ds).map fun ns => .val (.int ns.sum)
  | _ => none
def nAll : NOp
  | [.lst ds] => (D.bls? ds).map fun ns => .val (.bl (ns.all id))
  | _ => none
def nAny : NOp
  | [.lst ds] => (D.bls? ds).map fun ns => .val (.bl (ns.any id))
  | _ => none
def nTuple : NOp
  | [.lst ds] => some (.val (.tup ds))
  | [.tup ds] => some (.val (.tup ds))
  | _ => none
def nList : NOp
  | [.lst ds] => some (.new (.lst ds))
  | [.tup ds] => some (.new (.lst ds))
  | _ => none
end Sa

namespace Sa
open PySem L2 PySem.Spec PyProof.Rows
open Evl (Ex)

def ror (r r' : R2) : R2 := fun x y H Q => r x y H Q ∨ r' x y H Q
theorem OpR.ror {X : Cx} {f : Value → Value → Sem Value} {r r' : R2} (h : OpR X f r) (h' : OpR X f r') : OpR X f (Sa.ror r r') := fun pins s σ H x y v u Q I rx ry q =>
  q.elim (fun q => h pins s σ H x y v u Q I rx ry q) fun q => h' pins s σ H x y v u Q I rx ry q
abbrev on2 (r : R2) : List V → Hp → VK → Prop := fun vs H Q => ∃ x y, vs = [x, y] ∧ r x y H Q
abbrev on1 (r : V → Hp → VK → Prop) : List V → Hp → VK → Prop := fun vs H Q => ∃ x, vs = [x] ∧ r x H Q
def cor (r r' : List V → Hp → VK → Prop) : List V → Hp → VK → Prop := fun vs H Q => r vs H Q ∨ r' vs H Q
theorem CallR.cor {X : Cx} {f : Value} {r r' : List V → Hp → VK → Prop} (h : CallR X f r) (h' : CallR X f r') : CallR X f (Sa.cor r r') := fun pins s σ H xs us Q I rx q =>
  q.elim (fun q => h pins s σ H xs us Q I rx q) fun q => h' pins s σ H xs us Q I rx q

section
variable {X : Cx} {K : Fg}
/-- two lists put together, wherever they stand -/
def rCatL (K : Fg) : R2 := fun x y H Q => ∃ (l b : Addr) (xs zs : List V), x = .ref l ∧ y = .ref b ∧ SqL K H l xs ∧ SqL K H b zs ∧ xs.length + zs.length ≤ sizeLine ∧ ∀ p, H p = none → Q (.ref p) (upd H p (.lst (xs ++ zs)))
theorem op_catL : OpR X (binaryOp .Add) (rCatL X.K) := by
  intro pins s σ H x y v u Q I rx ry h
  obtain ⟨l, b, xs, zs, rfl, rfl, h1, h2, hz, q⟩ := h
  cases rx
  cases ry
  obtain ⟨its, r1, p1, _⟩ := I.list h1
  obtain ⟨its2, r2, p2, _⟩ := I.list h2
  have e1 := r1.length
  have e2 := r2.length
  obtain ⟨⟨c1, d1, t1, s1⟩, n1, g1, g2, g3, g4⟩ := p1
  obtain ⟨⟨c2, d2, t2, s2⟩, n2, k1, k2, k3, k4⟩ := p2
  simp only at g2 g3 g4 k2 k3 k4
  subst g2 g3 g4 k2 k3 k4
  have hz' : its.toArray.size + its2.toArray.size ≤ sizeLine := by
    rw [List.size_toArray, List.size_toArray, ← e1, ← e2]
    exact hz
  refine concat_meets ⟨_, g1, rfl⟩ ⟨_, k1, rfl⟩ noFill_list_add seq_list_add PySem.F.slot_list_add PySem.F.entry_list_add
    (PySem.F.args_list_add_2 _ _) (list_addW l b its.toArray its2.toArray n1 n2 none none s1 s2 hz') ⟨g1, k1, ?_⟩
  have ea : its.toArray ++ its2.toArray = (its ++ its2).toArray := by simp
  rw [ea]
  refine ⟨.ref _, _, I.lnew (t' := s.toks) (r1.append r2) (by rw [List.length_append]; exact hz), rfl, q _ (I.hok.fresh (Nat.le_refl _))⟩

/-! ### operators -/
abbrev rAddA (K : Fg) : R2 := ror (rI0 fun i j => .int (i + j)) (ror (fun x y H Q => ∃ i j, x = .str i ∧ y = .str j ∧ i.length + j.length ≤ sizeLine ∧ Q (.str (i ++ j)) H) (ror (rCatA K) (rCatL K)))
theorem op_addA : OpR X (binaryOp .Add) (rAddA X.K) := OpR.ror op_add (OpR.ror op_add_str (OpR.ror op_catA op_catL))
theorem n_add : NatR K (on2 (rAddA K)) nAdd := ⟨fun ds vs H Hb out Q ex h e k => by
  unfold nAdd at e
  split at e
  · cases e
    obtain ⟨x, y, rfl, a, b⟩ := h.two
    exact ⟨x, y, rfl, .inl ⟨_, _, a.int, b.int, k.dat ex rfl⟩⟩
  · obtain ⟨hz, rfl⟩ := guard_some e
    obtain ⟨x, y, rfl, a, b⟩ := h.two
    exact ⟨x, y, rfl, .inr (.inl ⟨_, _, a.str, b.str, szOk_le hz, k.dat ex rfl⟩)⟩
  · obtain ⟨hz, rfl⟩ := guard_some e
    obtain ⟨x, y, rfl, a, b⟩ := h.two
    have a' := a.rep fun _ => by simp
    have b' := b.rep fun _ => by simp
    obtain ⟨p, xs, rfl, a1, a2⟩ := a'
    obtain ⟨q, ys, rfl, b1, b2⟩ := b'
    refine ⟨_, _, rfl, .inr (.inr (.inl ⟨p, q, xs, ys, rfl, rfl, Evl.ex_t ex a1, Evl.ex_t ex b1, ?_, fun z => ?_, fun _ z => ?_, fun _ _ r hr => k.tu ex hr (a2.app b2)⟩))⟩
    · rw [← a2.len, ← b2.len]; exact szOk_le hz
    · subst z
      rename_i as bs
      have : as = [] := List.eq_nil_of_length_eq_zero (by rw [a2.len]; rfl)
      subst this
      exact k.dat ex ⟨q, ys, rfl, b1, b2⟩
    · subst z
      rename_i as bs _
      have : bs = [] := List.eq_nil_of_length_eq_zero (by rw [b2.len]; rfl)
      subst this
      rw [List.append_nil] at k
      exact k.dat ex ⟨p, xs, rfl, a1, a2⟩
  · obtain ⟨hz, rfl⟩ := guard_some e
    obtain ⟨x, y, rfl, a, b⟩ := h.two
    obtain ⟨p, xs, rfl, a1, a2⟩ := a.lst ex
    obtain ⟨q, ys, rfl, b1, b2⟩ := b.lst ex
    exact ⟨_, _, rfl, .inr (.inr (.inr ⟨p, q, xs, ys, rfl, rfl, a1, b1, by rw [← a2.len, ← b2.len]; exact szOk_le hz, fun r hr => k.li ex hr (a2.app b2)⟩))⟩
  · cases e⟩
theorem n_sub : NatR K (on2 (rI0 fun i j => .int (i - j))) nSub := ⟨fun ds vs H Hb out Q ex h e k => by
  unfold nSub at e
  split at e
  · cases e
    obtain ⟨x, y, rfl, a, b⟩ := h.two
    exact ⟨x, y, rfl, _, _, a.int, b.int, k.dat ex rfl⟩
  · cases e⟩
theorem n_mul : NatR K (on2 (rI CMulX fun i j => .int (i * j))) nMul := ⟨fun ds vs H Hb out Q ex h e k => by
  unfold nMul at e
  split at e
  · obtain ⟨hz, rfl⟩ := guard_some e
    obtain ⟨x, y, rfl, a, b⟩ := h.two
    exact ⟨x, y, rfl, _, _, a.int, b.int, show (_ : Int) ≤ _ from of_decide_eq_true hz, k.dat ex rfl⟩
  · cases e⟩
theorem n_div : NatR K (on2 (rI CDivW fun i j => .int (i / j))) nDiv := ⟨fun ds vs H Hb out Q ex h e k => by
  unfold nDiv at e
  split at e
  · obtain ⟨hz, rfl⟩ := guard_some e
    obtain ⟨x, y, rfl, a, b⟩ := h.two
    obtain ⟨h1, h2⟩ := Bool.and_eq_true_iff.mp hz
    exact ⟨x, y, rfl, _, _, a.int, b.int, ⟨of_decide_eq_true h1, of_decide_eq_true h2⟩, k.dat ex rfl⟩
  · cases e⟩
theorem n_mod : NatR K (on2 (rI (fun _ j => 0 < j) fun i j => .int (i % j))) nMod := ⟨fun ds vs H Hb out Q ex h e k => by
  unfold nMod at e
  split at e
  · obtain ⟨hz, rfl⟩ := guard_some e
    obtain ⟨x, y, rfl, a, b⟩ := h.two
    exact ⟨x, y, rfl, _, _, a.int, b.int, of_decide_eq_true hz, k.dat ex rfl⟩
  · cases e⟩
def CPowA (i j : Int) : Prop := 0 ≤ j ∧ (bits i : Int) * j ≤ 2 ^ 27
theorem op_powA : OpR X (binaryOp .Pow) (rI CPowA fun i j => .int (i ^ j.toNat)) := opI fun _ _ _ _ _ _ _ hc q => pow_int hc.1 hc.2 q
theorem n_pow : NatR K (on2 (rI CPowA fun i j => .int (i ^ j.toNat))) nPow := ⟨fun ds vs H Hb out Q ex h e k => by
  unfold nPow at e
  split at e
  · obtain ⟨hz, rfl⟩ := guard_some e
    obtain ⟨x, y, rfl, a, b⟩ := h.two
    obtain ⟨h1, h2⟩ := Bool.and_eq_true_iff.mp hz
    exact ⟨x, y, rfl, _, _, a.int, b.int, ⟨of_decide_eq_true h1, of_decide_eq_true h2⟩, k.dat ex rfl⟩
  · cases e⟩
theorem n_neg : NatR K (on1 (rU fun i => .int (-i))) nNeg := ⟨fun ds vs H Hb out Q ex h e k => by
  unfold nNeg at e
  split at e
  · cases e
    obtain ⟨x, rfl, a⟩ := h.one
    exact ⟨x, rfl, _, a.int, k.dat ex rfl⟩
  · cases e⟩
theorem n_lt : NatR K (on2 (rI0 fun i j => .bl (decide (i < j)))) nLt := ⟨fun ds vs H Hb out Q ex h e k => by
  unfold nLt at e
  split at e
  · cases e
    obtain ⟨x, y, rfl, a, b⟩ := h.two
    exact ⟨x, y, rfl, _, _, a.int, b.int, k.dat ex rfl⟩
  · cases e⟩
theorem n_le : NatR K (on2 (rI0 fun i j => .bl (decide (i ≤ j)))) nLe := ⟨fun ds vs H Hb out Q ex h e k => by
  unfold nLe at e
  split at e
  · cases e
    obtain ⟨x, y, rfl, a, b⟩ := h.two
    exact ⟨x, y, rfl, _, _, a.int, b.int, k.dat ex rfl⟩
  · cases e⟩
theorem n_gt : NatR K (on2 (rI0 fun i j => .bl (decide (j < i)))) nGt := ⟨fun ds vs H Hb out Q ex h e k => by
  unfold nGt at e
  split at e
  · cases e
    obtain ⟨x, y, rfl, a, b⟩ := h.two
    exact ⟨x, y, rfl, _, _, a.int, b.int, k.dat ex rfl⟩
  · cases e⟩
theorem n_ge : NatR K (on2 (rI0 fun i j => .bl (decide (j ≤ i)))) nGe := ⟨fun ds vs H Hb out Q ex h e k => by
  unfold nGe at e
  split at e
  · cases e
    obtain ⟨x, y, rfl, a, b⟩ := h.two
    exact ⟨x, y, rfl, _, _, a.int, b.int, k.dat ex rfl⟩
  · cases e⟩
mutual
theorem Rep.dp {H : Hp} : ∀ (d : D) (v : V), Rep K H d v → Dp K H v d.py
  | .non, _, h => by rw [show _ = _ from h]; exact .non
  | .bl b, _, h => by rw [show _ = _ from h]; exact .bl b
  | .int b, _, h => by rw [show _ = _ from h]; exact .int b
  | .str b, _, h => by rw [show _ = _ from h]; exact .str b
  | .tup ds, _, h => by
    obtain ⟨a, xs, rfl, h1, h2⟩ := h
    exact .tup h1 (RepL.dp ds xs h2)
  | .lst ds, _, h => by
    obtain ⟨a, xs, rfl, h1, h2⟩ := h
    exact .lst h1 (RepL.dp ds xs h2)
theorem RepL.dp {H : Hp} : ∀ (ds : List D) (xs : List V), RepL K H ds xs → DpAll K H xs (D.pys ds)
  | [], _, h => by rw [show _ = _ from h]; exact .nil
  | d :: ds, _, h => by
    obtain ⟨x, r, rfl, h1, h2⟩ := h
    exact .cons (Rep.dp d x h1) (RepL.dp ds r h2)
end
theorem n_eq : NatR K (on2 (rEqD K)) nEq := ⟨fun ds vs H Hb out Q ex h e k => by
  unfold nEq at e
  split at e
  · obtain ⟨hz, rfl⟩ := guard_some e
    obtain ⟨x, y, rfl, a, b⟩ := h.two
    obtain ⟨h1, h2⟩ := Bool.and_eq_true_iff.mp hz
    exact ⟨x, y, rfl, _, _, Rep.dp _ _ (a.full ex), Rep.dp _ _ (b.full ex), h1, h2, k.dat ex rfl⟩
  · cases e⟩
theorem n_ne : NatR K (on2 (rNeD K)) nNe := ⟨fun ds vs H Hb out Q ex h e k => by
  unfold nNe at e
  split at e
  · obtain ⟨hz, rfl⟩ := guard_some e
    obtain ⟨x, y, rfl, a, b⟩ := h.two
    obtain ⟨h1, h2⟩ := Bool.and_eq_true_iff.mp hz
    exact ⟨x, y, rfl, _, _, Rep.dp _ _ (a.full ex), Rep.dp _ _ (b.full ex), h1, h2, k.dat ex rfl⟩
  · cases e⟩
theorem Vw.isN {H Hb : Hp} {d : D} {v : V} (h : Vw K H Hb d v) : decide (v = .non) = d.isNon := by
  rcases h with h | ⟨ds, l, xs, rfl, rfl, _⟩
  · cases d with
    | non => have e : v = _ := h; subst e; rfl
    | tup ds => obtain ⟨a, xs, rfl, _⟩ := h; rfl
    | lst ds => obtain ⟨a, xs, rfl, _⟩ := h; rfl
    | _ => have e : v = _ := h; subst e; rfl
  · rfl
theorem n_isN : NatR K (on1 fun x H Q => Q (.bl (decide (x = .non))) H) nIsN := ⟨fun ds vs H Hb out Q ex h e k => by
  unfold nIsN at e
  split at e
  · cases e
    obtain ⟨x, rfl, a⟩ := h.one
    exact ⟨x, rfl, by show Q (.bl (decide (x = .non))) H; rw [a.isN]; exact k.dat ex rfl⟩
  · cases e⟩
theorem n_notN : NatR K (on1 fun x H Q => Q (.bl (!decide (x = .non))) H) nNotN := ⟨fun ds vs H Hb out Q ex h e k => by
  unfold nNotN at e
  split at e
  · cases e
    obtain ⟨x, rfl, a⟩ := h.one
    exact ⟨x, rfl, by show Q (.bl (!decide (x = .non))) H; rw [a.isN]; exact k.dat ex rfl⟩
  · cases e⟩
theorem atI_rep {H : Hp} {ds : List D} {xs : List V} {i : Int} {d : D} (h : RepL K H ds xs) (e : atI ds i = some d) : ∃ x, atI xs i = some x ∧ Rep K H d x := by
  unfold atI at e ⊢
  rw [← h.len]
  cases q : ixN ds.length i with
  | none => rw [q] at e; cases e
  | some j =>
    rw [q] at e
    exact h.get e
theorem n_idx : NatR K (on2 (rIx K)) nIdx := ⟨fun ds vs H Hb out Q ex h e k => by
  unfold nIdx at e
  split at e
  · rename_i ds i
    cases q : atI ds i with
    | none => rw [q] at e; cases e
    | some d =>
      rw [q] at e; cases e
      obtain ⟨x, y, rfl, a, b⟩ := h.two
      obtain ⟨p, xs, rfl, a1, a2⟩ := a.lst ex
      obtain ⟨z, q1, q2⟩ := atI_rep a2 q
      exact ⟨_, _, rfl, .inl ⟨p, xs, i, z, rfl, b.int, a1, q1, k.dat ex q2⟩⟩
  · rename_i ds i
    cases q : atI ds i with
    | none => rw [q] at e; cases e
    | some d =>
      rw [q] at e; cases e
      obtain ⟨x, y, rfl, a, b⟩ := h.two
      obtain ⟨p, xs, rfl, a1, a2⟩ := a.tup ex
      obtain ⟨z, q1, q2⟩ := atI_rep a2 q
      exact ⟨_, _, rfl, .inr (.inl ⟨p, xs, i, z, rfl, b.int, a1, q1, k.dat ex q2⟩)⟩
  · rename_i z i
    split at e
    · rename_i hz
      cases q : atI z.cps.toList i with
      | none => rw [q] at e; cases e
      | some c =>
        rw [q] at e; cases e
        obtain ⟨x, y, rfl, a, b⟩ := h.two
        exact ⟨_, _, rfl, .inr (.inr ⟨z, i, c, a.str, b.int, szOk_le hz, q, k.dat ex rfl⟩)⟩
    · cases e
  · cases e⟩

/-! ### built-ins -/
abbrev rLenA (K : Fg) : List V → Hp → VK → Prop := cor (fun xs H Q => ∃ p ys, xs = [.ref p] ∧ (SqL K H p ys ∨ SqT K H p ys) ∧ Q (.int ys.length) H) (fun xs H Q => ∃ z, xs = [.str z] ∧ z.length ≤ sizeLine ∧ Q (.int z.length) H)
theorem cr_lenA : CallR X (.builtin "len") (rLenA X.K) := CallR.cor call_len_seq call_len_str
theorem n_len : NatR K (rLenA K) nLen := ⟨fun ds vs H Hb out Q ex h e k => by
  unfold nLen at e
  split at e
  · cases e
    obtain ⟨x, rfl, a⟩ := h.one
    obtain ⟨p, xs, rfl, a1, a2⟩ := a.lst ex
    rw [a2.len] at k
    exact .inl ⟨p, xs, rfl, .inl a1, k.dat ex rfl⟩
  · cases e
    obtain ⟨x, rfl, a⟩ := h.one
    obtain ⟨p, xs, rfl, a1, a2⟩ := a.tup ex
    rw [a2.len] at k
    exact .inl ⟨p, xs, rfl, .inr a1, k.dat ex rfl⟩
  · obtain ⟨hz, rfl⟩ := guard_some e
    obtain ⟨x, rfl, a⟩ := h.one
    exact .inr ⟨_, by rw [a.str], szOk_le hz, k.dat ex rfl⟩
  · cases e⟩
abbrev rInt1 : List V → Hp → VK → Prop := fun xs H Q => (∃ i, xs = [.int i] ∧ Q (.int i) H) ∨ ∃ k, xs = [.bl k] ∧ Q (.int (if k then 1 else 0)) H
theorem n_int : NatR K rInt1 nInt := ⟨fun ds vs H Hb out Q ex h e k => by
  unfold nInt at e
  split at e
  · cases e
    obtain ⟨x, rfl, a⟩ := h.one
    exact .inl ⟨_, by rw [a.int], k.dat ex rfl⟩
  · cases e
    obtain ⟨x, rfl, a⟩ := h.one
    exact .inr ⟨_, by rw [a.bl], k.dat ex rfl⟩
  · cases e⟩
abbrev rAbs1 : List V → Hp → VK → Prop := fun xs H Q => ∃ i, xs = [.int i] ∧ Q (.int (if i < 0 then -i else i)) H
theorem n_abs : NatR K rAbs1 nAbs := ⟨fun ds vs H Hb out Q ex h e k => by
  unfold nAbs at e
  split at e
  · cases e
    obtain ⟨x, rfl, a⟩ := h.one
    exact ⟨_, by rw [a.int], k.dat ex rfl⟩
  · cases e⟩
theorem n_max1 : NatR K (rMax K) nMax1 := ⟨fun ds vs H Hb out Q ex h e k => by
  unfold nMax1 at e
  split at e
  · rename_i ds
    cases q : D.ints? ds with
    | none => rw [q] at e; cases e
    | some ns =>
      rw [q] at e
      obtain ⟨hz, rfl⟩ := guard_some e
      rw [D.ints_eq q] at h
      obtain ⟨x, rfl, a⟩ := h.one
      obtain ⟨p, xs, rfl, a1, a2⟩ := a.lst ex
      rw [a2.ints] at a1
      refine ⟨p, ns, rfl, a1, ?_, fun m h1 h2 => ?_⟩
      · cases ns with
        | nil => exact absurd hz (by decide)
        | cons _ _ => simp
      · rw [max_one h1 h2]
        exact k.dat ex rfl
  · cases e⟩
theorem n_min1 : NatR K (rMin K) nMin1 := ⟨fun ds vs H Hb out Q ex h e k => by
  unfold nMin1 at e
  split at e
  · rename_i ds
    cases q : D.ints? ds with
    | none => rw [q] at e; cases e
    | some ns =>
      rw [q] at e
      obtain ⟨hz, rfl⟩ := guard_some e
      rw [D.ints_eq q] at h
      obtain ⟨x, rfl, a⟩ := h.one
      obtain ⟨p, xs, rfl, a1, a2⟩ := a.lst ex
      rw [a2.ints] at a1
      refine ⟨p, ns, rfl, a1, ?_, fun m h1 h2 => ?_⟩
      · cases ns with
        | nil => exact absurd hz (by decide)
        | cons _ _ => simp
      · rw [min_one h1 h2]
        exact k.dat ex rfl
  · cases e⟩
abbrev rMx2 : List V → Hp → VK → Prop := fun xs H Q => ∃ i j, xs = [.int i, .int j] ∧ Q (.int (if j > i then j else i)) H
theorem n_max2 : NatR K rMx2 nMax2 := ⟨fun ds vs H Hb out Q ex h e k => by
  unfold nMax2 at e
  split at e
  · cases e
    obtain ⟨x, y, rfl, a, b⟩ := h.two
    exact ⟨_, _, by rw [a.int, b.int], k.dat ex rfl⟩
  · cases e⟩
abbrev rMn2 : List V → Hp → VK → Prop := fun xs H Q => ∃ i j, xs = [.int i, .int j] ∧ Q (.int (if j < i then j else i)) H
theorem n_min2 : NatR K rMn2 nMin2 := ⟨fun ds vs H Hb out Q ex h e k => by
  unfold nMin2 at e
  split at e
  · cases e
    obtain ⟨x, y, rfl, a, b⟩ := h.two
    exact ⟨_, _, by rw [a.int, b.int], k.dat ex rfl⟩
  · cases e⟩
theorem n_sum : NatR K (rSum K) nSum := ⟨fun ds vs H Hb out Q ex h e k => by
  unfold nSum at e
  split at e
  · rename_i ds
    cases q : D.ints? ds with
    | none => rw [q] at e; cases e
    | some ns =>
      rw [q] at e; cases e
      rw [D.ints_eq q] at h
      obtain ⟨x, rfl, a⟩ := h.one
      obtain ⟨p, xs, rfl, a1, a2⟩ := a.lst ex
      rw [a2.ints] at a1
      exact ⟨p, ns, rfl, a1, k.dat ex rfl⟩
  · cases e⟩
theorem n_all : NatR K (rAll K) nAll := ⟨fun ds vs H Hb out Q ex h e k => by
  unfold nAll at e
  split at e
  · rename_i ds
    cases q : D.bls? ds with
    | none => rw [q] at e; cases e
    | some ns =>
      rw [q] at e; cases e
      rw [D.bls_eq q] at h
      obtain ⟨x, rfl, a⟩ := h.one
      obtain ⟨p, xs, rfl, a1, a2⟩ := a.lst ex
      rw [a2.bls] at a1
      exact ⟨p, ns, rfl, a1, k.dat ex rfl⟩
  · cases e⟩
theorem n_any : NatR K (rAny K) nAny := ⟨fun ds vs H Hb out Q ex h e k => by
  unfold nAny at e
  split at e
  · rename_i ds
    cases q : D.bls? ds with
    | none => rw [q] at e; cases e
    | some ns =>
      rw [q] at e; cases e
      rw [D.bls_eq q] at h
      obtain ⟨x, rfl, a⟩ := h.one
      obtain ⟨p, xs, rfl, a1, a2⟩ := a.lst ex
      rw [a2.bls] at a1
      exact ⟨p, ns, rfl, a1, k.dat ex rfl⟩
  · cases e⟩
abbrev rTuple1 (K : Fg) : List V → Hp → VK → Prop := fun xs H Q => ∃ p ys, xs = [.ref p] ∧ ((SqL K H p ys ∧ ∀ l, H l = none → Q (.ref l) (upd H l (.tup ys))) ∨ (SqT K H p ys ∧ Q (.ref p) H))
theorem n_tuple : NatR K (rTuple1 K) nTuple := ⟨fun ds vs H Hb out Q ex h e k => by
  unfold nTuple at e
  split at e
  · cases e
    obtain ⟨x, rfl, a⟩ := h.one
    obtain ⟨p, xs, rfl, a1, a2⟩ := a.lst ex
    exact ⟨p, xs, rfl, .inl ⟨a1, fun l hl => k.tu ex hl a2⟩⟩
  · cases e
    obtain ⟨x, rfl, a⟩ := h.one
    have a' := a.rep fun _ => by simp
    obtain ⟨p, xs, rfl, a1, a2⟩ := a.tup ex
    exact ⟨p, xs, rfl, .inr ⟨a1, k.dat ex a'⟩⟩
  · cases e⟩
abbrev rList1 (K : Fg) : List V → Hp → VK → Prop := fun xs H Q => ∃ p ys, xs = [.ref p] ∧ (SqL K H p ys ∨ SqT K H p ys) ∧ ∀ l, H l = none → Q (.ref l) (upd H l (.lst ys))
theorem n_list : NatR K (rList1 K) nList := ⟨fun ds vs H Hb out Q ex h e k => by
  unfold nList at e
  split at e
  · cases e
    obtain ⟨x, rfl, a⟩ := h.one
    obtain ⟨p, xs, rfl, a1, a2⟩ := a.lst ex
    exact ⟨p, xs, rfl, .inl a1, fun l hl => k.li ex hl a2⟩
  · cases e
    obtain ⟨x, rfl, a⟩ := h.one
    obtain ⟨p, xs, rfl, a1, a2⟩ := a.tup ex
    exact ⟨p, xs, rfl, .inr a1, fun l hl => k.li ex hl a2⟩
  · cases e⟩
/-! ### sorted of ints -/
def sortI (ns : List Int) : List Int := ns.mergeSort (fun a b => decide (a ≤ b))
theorem sortI_perm (ns : List Int) : (sortI ns).Perm ns := List.mergeSort_perm _ _
theorem sortI_pw (ns : List Int) : (sortI ns).Pairwise (· ≤ ·) := by
  have h := List.pairwise_mergeSort (le := fun (a b : Int) => decide (a ≤ b)) (fun a b c h1 h2 => by
    have := of_decide_eq_true h1
    have := of_decide_eq_true h2
    exact decide_eq_true (by omega)) (fun a b => by
    by_cases h : a ≤ b
    · simp [h]
    · simp [show b ≤ a by omega]) ns
  exact h.imp fun h => of_decide_eq_true h
theorem sortI_one {ns ms : List Int} (h1 : ms.Perm ns) (h2 : ms.Pairwise (· ≤ ·)) : ms = sortI ns := PySem.W.ksm_same (h1.trans (sortI_perm ns).symm) h2 (sortI_pw ns)
def nSorted : NOp
  | [.lst ds] => (D.ints? ds).map fun ns => .new (.lst ((sortI ns).map D.int))
  | _ => none
theorem n_sorted : NatR K (rSortedI K) nSorted := ⟨fun ds vs H Hb out Q ex h e k => by
  unfold nSorted at e
  split at e
  · rename_i ds
    cases q : D.ints? ds with
    | none => rw [q] at e; cases e
    | some ns =>
      rw [q] at e; cases e
      rw [D.ints_eq q] at h
      obtain ⟨x, rfl, a⟩ := h.one
      obtain ⟨p, xs, rfl, a1, a2⟩ := a.lst ex
      rw [a2.ints] at a1
      refine ⟨p, ns, rfl, a1, fun ms l h1 h2 hl => ?_⟩
      rw [sortI_one h1 h2]
      exact k.li ex hl (RepL.of_ints _)
  · cases e⟩
end
end Sa

namespace Sa
open PySem L2 PySem.Spec PyProof.Rows
open Evl (Ex)

/-! ## Expressions -/
def sVar (i : Nat) : SE := fun ρ => match ρ[i]? with
  | some (.val d _) => .ok (.val d) ρ
  | some (.own _ _) => .ok (.own i) ρ
  | _ => .bad
def sC (d : D) : SE := fun ρ => .ok (.val d) ρ
section
variable {X : Cx} {a b c e : Expr} {f g h : SE} {pos : Pos} {K : Fg} {σ : L2.St} {H : Hp} {Q : VK}
theorem tE_var {i : Nat} (w : tE K (sVar i) σ H Q) : tVar i σ H Q := by
  obtain ⟨ρ, Hb, rel, w⟩ := w
  simp only [sVar] at w
  cases q : ρ[i]? with
  | none => simp only [q] at w; exact w.elim
  | some sl =>
    cases sl with
    | non => simp only [q] at w; exact w.elim
    | val d p =>
      simp only [q] at w
      obtain ⟨v, e1, e2⟩ := rel.val i d p q
      exact ⟨v, e1, w v H Hb (.refl rel) (.refl ρ) e2 trivial⟩
    | own o p =>
      simp only [q] at w
      obtain ⟨l, e1, e2, e3⟩ := rel.own i o p q
      exact ⟨.ref l, e1, w (.ref l) H Hb (.refl rel) (.refl ρ) ⟨e1, .inl ⟨o, p, q⟩⟩ trivial⟩
theorem tE_c {d : D} {v : V} (r : ∀ H, Rep K H d v) (w : tE K (sC d) σ H Q) : Q v H := by
  obtain ⟨ρ, Hb, rel, w⟩ := w
  exact w v H Hb (.refl rel) (.refl ρ) (r Hb) trivial
theorem d_var (i : Nat) {x : Str} (hN : X.N[i]? = some x := by rfl) (hv : Vis X.env.scope x := by first | exact Or.inl rfl | exact Or.inr (Or.inl rfl) | exact Or.inr (Or.inr rfl)) (hd : (x == ("__debug__" : Str)) = false := by decide)
    (hcd : (x == ("__classdict__" : Str)) = false := by decide) : DE X (.Name x pos) (sVar i) :=
  .of (PE.imp (pe_var hN hv hd hcd) fun _ _ _ w => tE_var w)
theorem d_int {i : Int} {j : Nat} : DE X (.Constant (.int i) j pos) (sC (.int i)) := .of (PE.imp pe_int fun _ _ _ w => tE_c (K := X.K) (d := .int i) (v := .int i) (fun _ => rfl) w)
theorem d_bl {i : Bool} {j : Nat} : DE X (.Constant (.bool i) j pos) (sC (.bl i)) := .of (PE.imp pe_bl fun _ _ _ w => tE_c (K := X.K) (d := .bl i) (v := .bl i) (fun _ => rfl) w)
theorem d_non {j : Nat} : DE X (.Constant .none j pos) (sC .non) := .of (PE.imp pe_non fun _ _ _ w => tE_c (K := X.K) (d := .non) (v := .non) (fun _ => rfl) w)
theorem d_str {i : Str} {j : Nat} : DE X (.Constant (.str i) j pos) (sC (.str i)) := .of (PE.imp pe_str fun _ _ _ w => tE_c (K := X.K) (d := .str i) (v := .str i) (fun _ => rfl) w)
theorem d_gint {x : Str} {u : Value} {i : Int} (hg : Gl X x) (hm : X.mg x = some u) (r : RelV (.int i) u) (hd : (x == ("__debug__" : Str)) = false := by decide) : DE X (.Name x pos) (sC (.int i)) :=
  .of (PE.imp (pe_glob (v := .int i) hg hm r hd) fun _ _ _ w => tE_c (K := X.K) (d := .int i) (v := .int i) (fun _ => rfl) w)
theorem d_gstr {x : Str} {u : Value} {i : Str} (hg : Gl X x) (hm : X.mg x = some u) (r : RelV (.str i) u) (hd : (x == ("__debug__" : Str)) = false := by decide) : DE X (.Name x pos) (sC (.str i)) :=
  .of (PE.imp (pe_glob (v := .str i) hg hm r hd) fun _ _ _ w => tE_c (K := X.K) (d := .str i) (v := .str i) (fun _ => rfl) w)
theorem d_op {op : Operator} {r : R2} {n : NOp} (ho : OpR X (binaryOp op) r) (hn : NatR X.K (on2 r) n) (ha : DE X a f) (hb : DE X b g) : DE X (.BinOp a op b pos) (sNat n [f, g]) :=
  .of (PE.imp (pe_op ho ha.pe hb.pe) fun _ _ _ w => nat2 hn w)
theorem d_un {op : UnaryOp} {r : V → Hp → VK → Prop} {n : NOp} (ho : UnR X (unaryOp op) r) (hn : NatR X.K (on1 r) n) (ha : DE X a f) (he : ∀ whole, isTrue (.UnaryOp op a pos) X.env whole = (do let v ← whole; standAt pos; holding [v] (truthy v)) := by intro _; rfl) : DE X (.UnaryOp op a pos) (sNat n [f]) :=
  .of (PE.imp (pe_un ho ha.pe) fun _ _ _ w => nat1 hn w) he
theorem tT_of {f : SE} {Q : Bool → Hp → Prop} (w : tT K f σ H Q) : tE K f σ H fun x H1 => ∃ k, x = .bl k ∧ Q k H1 := by
  obtain ⟨ρ, Hb, rel, w⟩ := w
  refine ⟨ρ, Hb, rel, ?_⟩
  cases e : f ρ with
  | bad => simp only [e] at w
  | ok r ρ1 =>
    simp only [e] at w
    match r, w with
    | .val (.bl k), w => exact fun v H1 Hb1 s k1 r1 _ => ⟨k, r1, w H1 Hb1 s k1⟩
theorem d_cmp {op : CmpOp} {r : R2} {n : NOp} (ho : OpR X (compareOp op) r) (hn : NatR X.K (on2 r) n) (ha : DE X a f) (hb : DE X b g) (hm : behindInMarks op b = false := by rfl) : DE X (.Compare a [op] [b] pos) (sNat n [f, g]) :=
  ⟨PE.imp (pe_cmpR ho ha.pe hb.pe hm) fun _ _ _ w => nat2 hn w, PT.imp (pt_cmpR ho ha.pe hb.pe hm) fun _ _ _ w => nat2 hn (tT_of w)⟩

/-! a op b op' c -/
def sChain (n n' : NOp) (f g h : SE) : SE := fun ρ => (f ρ).bind fun r1 ρ1 => (g ρ1).bind fun r2 ρ2 => Rs.opt (views ρ2 [r1, r2]) fun ds => Rs.opt (n ds) fun o => match o with
  | .val (.bl true) => (h ρ2).bind fun r3 ρ3 => Rs.opt (views ρ3 [r2, r3]) fun ds => Rs.opt (n' ds) fun o => .ok o.r ρ3
  | .val (.bl false) => .ok (.val (.bl false)) ρ2
  | _ => .bad
theorem tE_chain {r r' : R2} {n n' : NOp} (hn : NatR K (on2 r) n) (hn' : NatR K (on2 r') n') (w : tE K (sChain n n' f g h) σ H Q) : tChain r r' (tE K f) (tE K g) (tE K h) σ H Q := by
  obtain ⟨ρ, Hb, rel, w⟩ := w
  refine ⟨ρ, Hb, rel, ?_⟩
  simp only [sChain] at w
  cases e1 : f ρ with
  | bad => simp only [e1, Rs.bind_bad] at w; exact w.elim
  | ok r1 ρ1 =>
  simp only [e1, Rs.bind_ok] at w
  intro v H1 Hb1 s1 k1 a1 f1
  refine ⟨ρ1, Hb1, s1.rel, ?_⟩
  cases e2 : g ρ1 with
  | bad => simp only [e2, Rs.bind_bad] at w; exact w.elim
  | ok r2 ρ2 =>
  simp only [e2, Rs.bind_ok] at w
  intro y H2 Hb2 s2 k2 a2 f2
  have a1' := a1.step s2 k2
  cases e3 : views ρ2 [r1, r2] with
  | none => simp only [e3, Rs.opt_none] at w; exact w.elim
  | some ds =>
  simp only [e3, Rs.opt_some] at w
  cases e4 : n ds with
  | none => simp only [e4, Rs.opt_none] at w; exact w.elim
  | some o =>
  simp only [e4, Rs.opt_some] at w
  have vw : VwL K H2 Hb2 ds [v, y] := ResL.vw s2.rel (rs := [r1, r2]) ⟨v, [y], rfl, a1', y, [], rfl, a2, rfl⟩ e3
  have s12 := s1.trans s2
  have k12 := k1.trans k2
  have run := hn.run ds [v, y] H2 Hb2 o (fun z H3 => ∃ k, z = .bl k ∧ (if k = true then tE K h σ H3 fun w' H4 => r' y w' H4 Q else Q (.bl false) H3)) s2.rel.ex vw e4 ?_
  · obtain ⟨x', y', e, q⟩ := run
    cases e
    exact q
  intro z H3 Hb3 x1 x2 x3 nw oa
  have g3 := s2.rel.grow x1 x2 x3 nw
  replace oa := OutAt.cl oa
  match o, w, oa with
  | .val (.bl false), w, oa =>
    refine ⟨false, oa, iteF ?_⟩
    exact w (.bl false) H3 (cl Hb3) (s12.trans g3) k12 rfl trivial
  | .val (.bl true), w, oa =>
    refine ⟨true, oa, iteT ?_⟩
    refine ⟨ρ2, cl Hb3, g3.rel, ?_⟩
    cases e5 : h ρ2 with
    | bad => simp only [e5, Rs.bind_bad] at w; exact w.elim
    | ok r3 ρ3 =>
    simp only [e5, Rs.bind_ok] at w
    intro w' H4 Hb4 s4 k4 a4 f4
    cases e6 : views ρ3 [r2, r3] with
    | none => simp only [e6, Rs.opt_none] at w; exact w.elim
    | some ds' =>
    simp only [e6, Rs.opt_some] at w
    cases e7 : n' ds' with
    | none => simp only [e7, Rs.opt_none] at w; exact w.elim
    | some o' =>
    simp only [e7, Rs.opt_some] at w
    have a2' := (a2.step g3 (.refl ρ2)).step s4 k4
    have vw' : VwL K H4 Hb4 ds' [y, w'] := ResL.vw s4.rel (rs := [r2, r3]) ⟨y, [w'], rfl, a2', w', [], rfl, a4, rfl⟩ e6
    have run' := hn'.run ds' [y, w'] H4 Hb4 o' Q s4.rel.ex vw' e7 fun z H5 Hb5 y1 y2 y3 nw' oa' => ?_
    · obtain ⟨x', y', e, q⟩ := run'
      cases e
      exact q
    · have g5 := s4.rel.grow y1 y2 y3 nw'
      obtain ⟨q1, q2⟩ := OutAt.res s4.rel oa'.cl
      have S := ((s12.trans g3).trans s4)
      exact w z H5 (cl Hb5) (S.trans g5) (k12.trans k4) q1 (q2.back S)
theorem d_chain {op op' : CmpOp} {r r' : R2} {n n' : NOp} (ho : OpR X (compareOp op) r) (hn : NatR X.K (on2 r) n) (ho' : OpR X (compareOp op') r') (hn' : NatR X.K (on2 r') n') (ha : DE X a f) (hb : DE X b g) (hc : DE X c h)
    (hm : lastMarks [op, op'] [b, c] = false := by with_unfolding_all rfl) : DE X (.Compare a [op, op'] [b, c] pos) (sChain n n' f g h) :=
  ⟨PE.imp (pe_chain ho ho' ha.pe hb.pe hc.pe hm) fun _ _ _ w => tE_chain hn hn' w, PT.imp (pt_chain ho ho' ha.pe hb.pe hc.pe hm) fun _ _ _ w => tE_chain hn hn' (tT_of w)⟩

/-! and, or, not, if-else -/
def sAnd (f g : SE) : SE := fun ρ => (f ρ).bind fun r ρ1 => match r with
  | .val (.bl true) => g ρ1
  | .val (.bl false) => .ok (.val (.bl false)) ρ1
  | _ => .bad
def sOr (f g : SE) : SE := fun ρ => (f ρ).bind fun r ρ1 => match r with
  | .val (.bl true) => .ok (.val (.bl true)) ρ1
  | .val (.bl false) => g ρ1
  | _ => .bad
def sNot (f : SE) : SE := fun ρ => (f ρ).bind fun r ρ1 => match r with
  | .val (.bl k) => .ok (.val (.bl (!k))) ρ1
  | _ => .bad
def sIf (c f g : SE) : SE := fun ρ => (c ρ).bind fun r ρ1 => match r with
  | .val (.bl true) => f ρ1
  | .val (.bl false) => g ρ1
  | _ => .bad
theorem WpE.after {ρ ρ1 : Rho} {H1 Hb Hb1 : Hp} {m : Rs R} (w : WpE K ρ σ H Hb m Q) (s : Step K ρ σ H Hb ρ1 σ H1 Hb1) (k : Keep ρ ρ1) : WpE K ρ1 σ H1 Hb1 m Q := by
  cases m with
  | bad => exact w
  | ok r ρ2 => exact fun v H2 Hb2 s2 k2 r2 f2 => w v H2 Hb2 (s.trans s2) (k.trans k2) r2 (f2.back s)
theorem tE_and (w : tE K (sAnd f g) σ H Q) : tAndV (tE K f) (tE K g) σ H Q := by
  obtain ⟨ρ, Hb, rel, w⟩ := w
  refine ⟨ρ, Hb, rel, ?_⟩
  simp only [sAnd] at w
  cases e1 : f ρ with
  | bad => simp only [e1, Rs.bind_bad] at w; exact w.elim
  | ok r1 ρ1 =>
  simp only [e1, Rs.bind_ok] at w
  intro v H1 Hb1 s1 k1 a1 f1
  match r1, w, a1 with
  | .val (.bl true), w, a1 => exact ⟨true, a1, iteT ⟨ρ1, Hb1, s1.rel, w.after s1 k1⟩⟩
  | .val (.bl false), w, a1 => exact ⟨false, a1, iteF (w _ H1 Hb1 s1 k1 rfl trivial)⟩
theorem tE_or (w : tE K (sOr f g) σ H Q) : tOrV (tE K f) (tE K g) σ H Q := by
  obtain ⟨ρ, Hb, rel, w⟩ := w
  refine ⟨ρ, Hb, rel, ?_⟩
  simp only [sOr] at w
  cases e1 : f ρ with
  | bad => simp only [e1, Rs.bind_bad] at w; exact w.elim
  | ok r1 ρ1 =>
  simp only [e1, Rs.bind_ok] at w
  intro v H1 Hb1 s1 k1 a1 f1
  match r1, w, a1 with
  | .val (.bl true), w, a1 => exact ⟨true, a1, iteT (w _ H1 Hb1 s1 k1 rfl trivial)⟩
  | .val (.bl false), w, a1 => exact ⟨false, a1, iteF ⟨ρ1, Hb1, s1.rel, w.after s1 k1⟩⟩
theorem tE_not (w : tE K (sNot f) σ H Q) : tNotV (tE K f) σ H Q := by
  obtain ⟨ρ, Hb, rel, w⟩ := w
  refine ⟨ρ, Hb, rel, ?_⟩
  simp only [sNot] at w
  cases e1 : f ρ with
  | bad => simp only [e1, Rs.bind_bad] at w; exact w.elim
  | ok r1 ρ1 =>
  simp only [e1, Rs.bind_ok] at w
  intro v H1 Hb1 s1 k1 a1 f1
  match r1, w, a1 with
  | .val (.bl k), w, a1 => exact ⟨k, a1, w _ H1 Hb1 s1 k1 rfl trivial⟩
/-- tests -/
def WpT (K : Fg) (ρ : Rho) (σ : L2.St) (H Hb : Hp) (m : Rs R) (Q : Bool → Hp → Prop) : Prop := match m with
  | .ok (.val (.bl b)) ρ' => ∀ H' Hb', Step K ρ σ H Hb ρ' σ H' Hb' → Keep ρ ρ' → Q b H'
  | _ => False
theorem WpT.after {ρ ρ1 : Rho} {H1 Hb Hb1 : Hp} {m : Rs R} {Q : Bool → Hp → Prop} (w : WpT K ρ σ H Hb m Q) (s : Step K ρ σ H Hb ρ1 σ H1 Hb1) (k : Keep ρ ρ1) : WpT K ρ1 σ H1 Hb1 m Q := by
  match m, w with
  | .ok (.val (.bl b)) ρ', w => exact fun H' Hb' s' k' => w H' Hb' (s.trans s') (k.trans k')
theorem tT_def {f : SE} {Q : Bool → Hp → Prop} : tT K f σ H Q = ∃ ρ Hb, Rel K ρ σ H Hb ∧ WpT K ρ σ H Hb (f ρ) Q := rfl
theorem WpT.inv {ρ : Rho} {Hb : Hp} {m : Rs R} {Q : Bool → Hp → Prop} (w : WpT K ρ σ H Hb m Q) : ∃ b ρ', m = .ok (.val (.bl b)) ρ' := by
  match m, w with
  | .ok (.val (.bl b)) ρ', _ => exact ⟨b, ρ', rfl⟩
theorem tT_step {f : SE} {k : R → Rho → Rs R} {ρ : Rho} {Hb : Hp} {Q : Bool → Hp → Prop} (w : WpT K ρ σ H Hb ((f ρ).bind k) Q) (hk : ∀ r ρ1 b ρ2, k r ρ1 = .ok (.val (.bl b)) ρ2 → ∃ c, r = .val (.bl c)) : ∃ c ρ1, f ρ = .ok (.val (.bl c)) ρ1 ∧ WpT K ρ σ H Hb (k (.val (.bl c)) ρ1) Q := by
  cases e : f ρ with
  | bad => rw [e] at w; exact w.elim
  | ok r ρ1 =>
    rw [e, Rs.bind_ok] at w
    obtain ⟨b, ρ2, e2⟩ := w.inv
    obtain ⟨c, rfl⟩ := hk r ρ1 b ρ2 e2
    exact ⟨c, ρ1, rfl, w⟩
theorem tT_and {Q : Bool → Hp → Prop} (w : tT K (sAnd f g) σ H Q) : tAnd (tT K f) (tT K g) σ H Q := by
  obtain ⟨ρ, Hb, rel, w⟩ := w
  refine ⟨ρ, Hb, rel, ?_⟩
  change WpT K ρ σ H Hb ((f ρ).bind _) Q at w
  obtain ⟨c, ρ1, e, w⟩ := tT_step w fun r ρ1 b ρ2 h => by
    match r, h with
    | .val (.bl c), _ => exact ⟨c, rfl⟩
  rw [e]
  intro H1 Hb1 s1 k1
  cases c with
  | true => exact iteT ⟨ρ1, Hb1, s1.rel, w.after s1 k1⟩
  | false => exact iteF (w H1 Hb1 s1 k1)
theorem tT_or {Q : Bool → Hp → Prop} (w : tT K (sOr f g) σ H Q) : tOr (tT K f) (tT K g) σ H Q := by
  obtain ⟨ρ, Hb, rel, w⟩ := w
  refine ⟨ρ, Hb, rel, ?_⟩
  change WpT K ρ σ H Hb ((f ρ).bind _) Q at w
  obtain ⟨c, ρ1, e, w⟩ := tT_step w fun r ρ1 b ρ2 h => by
    match r, h with
    | .val (.bl c), _ => exact ⟨c, rfl⟩
  rw [e]
  intro H1 Hb1 s1 k1
  cases c with
  | true => exact iteT (w H1 Hb1 s1 k1)
  | false => exact iteF ⟨ρ1, Hb1, s1.rel, w.after s1 k1⟩
theorem tT_not {Q : Bool → Hp → Prop} (w : tT K (sNot f) σ H Q) : tNot (tT K f) σ H Q := by
  obtain ⟨ρ, Hb, rel, w⟩ := w
  refine ⟨ρ, Hb, rel, ?_⟩
  change WpT K ρ σ H Hb ((f ρ).bind _) Q at w
  obtain ⟨c, ρ1, e, w⟩ := tT_step w fun r ρ1 b ρ2 h => by
    match r, h with
    | .val (.bl c), _ => exact ⟨c, rfl⟩
  rw [e]
  intro H1 Hb1 s1 k1
  exact w H1 Hb1 s1 k1
theorem tT_imp {Q Q' : Bool → Hp → Prop} (w : tT K f σ H Q) (k : ∀ b H', Q b H' → Q' b H') : tT K f σ H Q' := by
  obtain ⟨ρ, Hb, rel, w⟩ := w
  refine ⟨ρ, Hb, rel, ?_⟩
  change WpT K ρ σ H Hb (f ρ) Q at w
  change WpT K ρ σ H Hb (f ρ) Q'
  cases e : f ρ with
  | bad => rw [e] at w; exact w.elim
  | ok r ρ1 =>
    rw [e] at w
    match r, w with
    | .val (.bl b), w => exact fun H' Hb' s' k' => k _ _ (w H' Hb' s' k')
theorem tE_if {t : SE} (w : tE K (sIf t f g) σ H Q) : tIf (tT K t) (tE K f) (tE K g) σ H Q := by
  obtain ⟨ρ, Hb, rel, w⟩ := w
  refine ⟨ρ, Hb, rel, ?_⟩
  simp only [sIf] at w
  show WpT K ρ σ H Hb (t ρ) _
  cases e1 : t ρ with
  | bad => simp only [e1, Rs.bind_bad] at w; exact w.elim
  | ok r1 ρ1 =>
  simp only [e1, Rs.bind_ok] at w
  match r1, w with
  | .val (.bl true), w => exact fun H1 Hb1 s1 k1 => iteT ⟨ρ1, Hb1, s1.rel, w.after s1 k1⟩
  | .val (.bl false), w => exact fun H1 Hb1 s1 k1 => iteF ⟨ρ1, Hb1, s1.rel, w.after s1 k1⟩
theorem tT_if {t : SE} {Q : Bool → Hp → Prop} (w : tT K (sIf t f g) σ H Q) : tT K t σ H fun c H1 => if c = true then tT K f σ H1 Q else tT K g σ H1 Q := by
  obtain ⟨ρ, Hb, rel, w⟩ := w
  refine ⟨ρ, Hb, rel, ?_⟩
  change WpT K ρ σ H Hb ((t ρ).bind _) Q at w
  obtain ⟨c, ρ1, e, w⟩ := tT_step w fun r ρ1 b ρ2 h => by
    match r, h with
    | .val (.bl c), _ => exact ⟨c, rfl⟩
  rw [e]
  intro H1 Hb1 s1 k1
  cases c with
  | true => exact iteT ⟨ρ1, Hb1, s1.rel, w.after s1 k1⟩
  | false => exact iteF ⟨ρ1, Hb1, s1.rel, w.after s1 k1⟩
/-- a row of ands, or ors -/
structure DB (X : Cx) (op : BoolOp) (es : List Expr) (pos : Pos) (f : SE) : Prop where
  pe : PE X (.BoolOp op es pos) (tE X.K f)
  pw : PW X (.BoolOp op es pos) (tT X.K f)
theorem PW.imp {X : Cx} {e : Expr} {t u : TT} (h : PW X e t) (k : ∀ σ H Q, u σ H Q → t σ H Q) : PW X e u := ⟨fun wh pins s σ H Q I q => h.run wh pins s σ H Q I (k σ H Q q)⟩
theorem db_and1 (ha : DE X a f) : DB X .And [a] pos f := ⟨pe_one ha.pe, pw_and1 ha.pt⟩
theorem db_or1 (ha : DE X a f) : DB X .Or [a] pos f := ⟨pe_one ha.pe, pw_or1 ha.pt⟩
theorem db_and {es : List Expr} (ha : DE X a f) (hb : DB X .And (b :: es) pos g) : DB X .And (a :: b :: es) pos (sAnd f g) :=
  ⟨PE.imp (pe_and ha.pe hb.pe) fun _ _ _ w => tE_and w, PW.imp (pw_and ha.pt hb.pw) fun _ _ _ w => tT_and w⟩
theorem db_or {es : List Expr} (ha : DE X a f) (hb : DB X .Or (b :: es) pos g) : DB X .Or (a :: b :: es) pos (sOr f g) :=
  ⟨PE.imp (pe_or ha.pe hb.pe) fun _ _ _ w => tE_or w, PW.imp (pw_or ha.pt hb.pw) fun _ _ _ w => tT_or w⟩
theorem DB.de {op : BoolOp} {es : List Expr} (h : DB X op es pos f) : DE X (.BoolOp op es pos) f := ⟨h.pe, h.pw.pt⟩
theorem d_not (ha : DE X a f) : DE X (.UnaryOp .Not a pos) (sNot f) := ⟨PE.imp (pe_not ha.pe) fun _ _ _ w => tE_not w, PT.imp (pt_not ha.pt) fun _ _ _ w => tT_not w⟩
theorem pt_ifE {t : Expr} {tc ta tb : TT} (hc : PT X t tc) (ha : PT X a ta) (hb : PT X b tb) : PT X (.IfExp t a b pos) (fun σ H Q => tc σ H fun c H1 => if c = true then ta σ H1 Q else tb σ H1 Q) := by
  refine ⟨fun pins s σ H Q I w => isTrue_IfExp (thn (hc.run pins s σ H _ I w) fun c s1 ⟨H1, I1, q1⟩ => ?_)⟩
  cases c with
  | true => exact ha.run pins s1 σ H1 Q I1 (by rw [if_pos rfl] at q1; exact q1)
  | false => exact hb.run pins s1 σ H1 Q I1 (by rw [if_neg (by decide)] at q1; exact q1)
theorem d_if {t : Expr} (hc : DE X t h) (ha : DE X a f) (hb : DE X b g) : DE X (.IfExp t a b pos) (sIf h f g) :=
  ⟨PE.imp (pe_ifExp hc.pt ha.pe hb.pe) fun _ _ _ w => tE_if w, PT.imp (pt_ifE hc.pt ha.pt hb.pt) fun _ _ _ w => tT_if w⟩

/-! displays -/
theorem evs_len : ∀ {fs : List SE} {ρ ρ' : Rho} {rs : List R}, evs fs ρ = .ok rs ρ' → rs.length = fs.length
  | [], _, _, _, h => by cases h; rfl
  | f :: fs, ρ, ρ', rs, h => by
    simp only [evs] at h
    cases e1 : f ρ with
    | bad => simp only [e1, Rs.bind_bad] at h; cases h
    | ok r ρ1 =>
      simp only [e1, Rs.bind_ok] at h
      cases e2 : evs fs ρ1 with
      | bad => simp only [e2, Rs.bind_bad] at h; cases h
      | ok rs' ρ2 =>
        simp only [e2, Rs.bind_ok] at h
        cases h
        simp [evs_len e2]
def sTup (fs : List SE) : SE := fun ρ => (evs fs ρ).bind fun rs ρ1 => Rs.opt (frzs rs ρ1) fun p => .ok (.val (.tup p.1)) p.2
def sLst (fs : List SE) : SE := fun ρ => (evs fs ρ).bind fun rs ρ1 => Rs.opt (frzs rs ρ1) fun p => .ok (.new (.lst p.1)) p.2
theorem tA_frz {fs : List SE} {k : List D × Rho → Rs R} {P : List V → Hp → Prop} (w : tE K (fun ρ => (evs fs ρ).bind fun rs ρ1 => Rs.opt (frzs rs ρ1) k) σ H Q)
    (go : ∀ (ρ : Rho) (Hb : Hp) (ds : List D) (ρ2 : Rho) (vs : List V) (H1 Hb1 : Hp), WpE K ρ σ H Hb (k (ds, ρ2)) Q → Step K ρ σ H Hb ρ2 σ H1 Hb1 → Keep ρ ρ2 → RepL K Hb1 ds vs → vs.length = fs.length → P vs H1) : tA K fs σ H P := by
  obtain ⟨ρ, Hb, rel, w⟩ := w
  refine ⟨ρ, Hb, rel, ?_⟩
  cases e1 : evs fs ρ with
  | bad => simp only [e1, Rs.bind_bad] at w; exact w.elim
  | ok rs ρ1 =>
  simp only [e1, Rs.bind_ok] at w
  intro vs H1 Hb1 s1 k1 r1 f1 a1
  cases e2 : frzs rs ρ1 with
  | none => simp only [e2, Rs.opt_none] at w; exact w.elim
  | some p =>
  obtain ⟨ds, ρ2⟩ := p
  simp only [e2, Rs.opt_some] at w
  obtain ⟨Hb2, s2, k2, x2, rl⟩ := frzs_ok s1 r1 f1 a1 e2
  exact go ρ Hb ds ρ2 vs H1 Hb2 w s2 (k1.trans k2) rl (by rw [← r1.len]; exact evs_len e1)
theorem tE_tup {fs : List SE} (hl : fs.length ≤ 1000) (w : tE K (sTup fs) σ H Q) : tTup (tA K fs) σ H Q := by
  refine tA_frz w fun ρ Hb ds ρ2 vs H1 Hb1 w s k rl ln => ⟨by rw [ln, sizeLine_eq]; omega, fun p hp => ?_⟩
  have ko : Kont K H1 Hb1 (.val (.tup ds)) (fun v H2 => Q v H2) := fun v H2 Hb2 x1 x2 x3 nw oa => w v H2 (cl Hb2) (s.trans (s.rel.grow x1 x2 x3 nw)) k (Rep.cl _ _ oa) trivial
  exact ko.tu s.rel.ex hp rl
theorem tE_lst {fs : List SE} (hl : fs.length ≤ 1000) (w : tE K (sLst fs) σ H Q) : tLst (tA K fs) σ H Q := by
  refine tA_frz w fun ρ Hb ds ρ2 vs H1 Hb1 w s k rl ln => ⟨by rw [ln, sizeLine_eq]; omega, fun p hp => ?_⟩
  have ko : Kont K H1 Hb1 (.new (.lst ds)) (fun v H2 => Q v H2) := fun v H2 Hb2 x1 x2 x3 nw oa => by
    obtain ⟨q1, q2⟩ := OutAt.res s.rel oa.cl
    exact w v H2 (cl Hb2) (s.trans (s.rel.grow x1 x2 x3 nw)) k q1 (q2.back s)
  exact ko.li s.rel.ex hp rl
theorem d_tup {es : List Expr} {fs : List SE} {k : Nat} (ha : DA X es fs) (hl : fs.length ≤ 1000 := by simp) : DE X (.Tuple es k pos) (sTup fs) := .of (PE.imp (pe_tup ha) fun _ _ _ w => tE_tup hl w)
theorem d_lst {es : List Expr} {fs : List SE} (ha : DA X es fs) (hl : fs.length ≤ 1000 := by simp) : DE X (.List es pos) (sLst fs) := .of (PE.imp (pe_lst ha) fun _ _ _ w => tE_lst hl w)

/-! subscripts -/
theorem d_ix (ha : DE X a f) (hb : DE X b g) (hs : PlainIx b := by exact fun _ _ => rfl) : DE X (.Subscript a b pos) (sNat nIdx [f, g]) := .of (PE.imp (pe_ix ix_seq ha.pe hb.pe hs) fun _ _ _ w => nat2 n_idx w)

/-! calls of built-ins -/
theorem nat_call {r : List V → Hp → VK → Prop} {n : NOp} (hn : NatR K r n) {fs : List SE} (w : tE K (sNat n fs) σ H Q) : tCB r (tA K fs) σ H Q := nat_core hn w
theorem d_callB {x : Str} {id : String} {p : Pos} {es : List Expr} {fs : List SE} {r : List V → Hp → VK → Prop} {n : NOp} (hc : CallR X (.builtin id) r) (hn : NatR X.K r n) (hg : Gl X x) (hm : X.mg x = none) (hv : bootBuiltins x = some (.builtin id)) (ha : DA X (e :: es) fs)
    (hx : x ≠ "__name__" := by decide) (hdb : (x == ("__debug__" : Str)) = false := by decide) (he : starEach (e :: es) X.env = (false, eval e X.env) :: starEach es X.env := by rfl) (hpl : (backTo pos (starEach es X.env)).any (·.1) = false := by rfl) :
    DE X (.Call (.Name x p) (e :: es) [] pos) (sNat n fs) := .of (PE.imp (pe_callB hc hg hm hv ha hx hdb he hpl) fun _ _ _ w => nat_call hn w)
theorem d_callT {x : Str} {T : String} {p : Pos} {es : List Expr} {fs : List SE} {r : List V → Hp → VK → Prop} {n : NOp} (hc : CallR X (.type T) r) (hn : NatR X.K r n) (hg : Gl X x) (hm : X.mg x = none) (hv : bootBuiltins x = some (.type T)) (ha : DA X (e :: es) fs)
    (hx : x ≠ "__name__" := by decide) (hdb : (x == ("__debug__" : Str)) = false := by decide) (he : starEach (e :: es) X.env = (false, eval e X.env) :: starEach es X.env := by rfl) (hpl : (backTo pos (starEach es X.env)).any (·.1) = false := by rfl) :
    DE X (.Call (.Name x p) (e :: es) [] pos) (sNat n fs) := .of (PE.imp (pe_callTy hc hg hm hv ha hx hdb he hpl) fun _ _ _ w => nat_call hn w)
end
end Sa

namespace Sa
open PySem L2 PySem.Spec PyProof.Rows
open Evl (Ex)

/-! ## Slices -/
def cutD (ds : List D) (lo hi : Option Int) : List D := (ds.drop (HT.sIx ds.length 0 lo)).take (HT.sIx ds.length ds.length hi - HT.sIx ds.length 0 lo)
def nSlc (d : D) (lo hi : Option Int) : Option NO := match d with
  | .lst ds => some (.new (.lst (cutD ds lo hi)))
  | .tup ds => some (.val (.tup (cutD ds lo hi)))
  | .str z => guard' (szOk z.length) (.val (.str (cutS z lo hi)))
  | _ => none
def oInt (o : Option SE) (ρ : Rho) : Rs (Option Int) := match o with
  | none => .ok none ρ
  | some g => (g ρ).bind fun r ρ' => match r with
    | .val (.int i) => .ok (some i) ρ'
    | _ => .bad
def sSlc (f : SE) (lo hi : Option SE) : SE := fun ρ => (f ρ).bind fun r ρ1 => (oInt lo ρ1).bind fun l ρ2 => (oInt hi ρ2).bind fun h ρ3 => Rs.opt (view ρ3 r) fun d => Rs.opt (nSlc d l h) fun o => .ok o.r ρ3
section
variable {X : Cx} {a b c e : Expr} {f g h : SE} {pos : Pos} {K : Fg} {σ : L2.St} {H : Hp} {Q : VK}
def tO (K : Fg) : Option SE → TO
  | none => tNoPart
  | some g => tPart (tE K g)
def rSlc (K : Fg) : V → Option Int → Option Int → Hp → VK → Prop := fun x lo hi H Q => rSlL K x lo hi H Q ∨ rSlA K x lo hi H Q ∨ rSlS x lo hi H Q
theorem sl_all : SlR X (rSlc X.K) := sl_list.or (sl_tupA.or sl_str)
theorem cutD_rep {H : Hp} {ds : List D} {xs : List V} {lo hi : Option Int} (h : RepL K H ds xs) : RepL K H (cutD ds lo hi) (cutV xs lo hi) := by
  unfold cutD cutV
  rw [h.len]
  exact (h.drop _).take _
theorem cutD_whole {ds : List D} {lo hi : Option Int} (h : HT.sIx ds.length 0 lo = 0 ∧ HT.sIx ds.length ds.length hi = ds.length) : cutD ds lo hi = ds := by
  unfold cutD
  rw [h.1, h.2]
  simp
/-- what an optional part leaves -/
theorem oInt_ok {lo : Option SE} {ρ0 ρ ρ1 : Rho} {H0 Hb0 Hb : Hp} {l : Option Int} {P : Option Int → Hp → Prop} (e : oInt lo ρ = .ok l ρ1) (s : Step K ρ0 σ H0 Hb0 ρ σ H Hb)
    (go : ∀ H1 Hb1, Step K ρ σ H Hb ρ1 σ H1 Hb1 → Keep ρ ρ1 → P l H1) : tO K lo σ H P := by
  cases lo with
  | none =>
    cases e
    exact go H Hb (.refl s.rel) (.refl ρ)
  | some g =>
    simp only [oInt] at e
    refine ⟨ρ, Hb, s.rel, ?_⟩
    cases e1 : g ρ with
    | bad => simp only [e1, Rs.bind_bad] at e; cases e
    | ok r ρ2 =>
      simp only [e1, Rs.bind_ok] at e
      intro v H1 Hb1 s1 k1 r1 f1
      match r, e, r1 with
      | .val (.int i), e, r1 =>
        cases e
        exact ⟨i, r1, go H1 Hb1 s1 k1⟩
theorem tE_slc {lo hi : Option SE} (w : tE K (sSlc f lo hi) σ H Q) : tSl (rSlc K) (tE K f) (tO K lo) (tO K hi) σ H Q := by
  obtain ⟨ρ, Hb, rel, w⟩ := w
  refine ⟨ρ, Hb, rel, ?_⟩
  simp only [sSlc] at w
  cases e1 : f ρ with
  | bad => simp only [e1, Rs.bind_bad] at w; exact w.elim
  | ok r1 ρ1 =>
  simp only [e1, Rs.bind_ok] at w
  intro v H1 Hb1 s1 k1 a1 f1
  cases e2 : oInt lo ρ1 with
  | bad => simp only [e2, Rs.bind_bad] at w; exact w.elim
  | ok l ρ2 =>
  simp only [e2, Rs.bind_ok] at w
  refine oInt_ok e2 s1 fun H2 Hb2 s2 k2 => ?_
  cases e3 : oInt hi ρ2 with
  | bad => simp only [e3, Rs.bind_bad] at w; exact w.elim
  | ok u ρ3 =>
  simp only [e3, Rs.bind_ok] at w
  refine oInt_ok e3 s2 fun H3 Hb3 s3 k3 => ?_
  have S := (s1.trans s2).trans s3
  have k := (k1.trans k2).trans k3
  have a3 := (a1.step s2 k2).step s3 k3
  cases e4 : view ρ3 r1 with
  | none => simp only [e4, Rs.opt_none] at w; exact w.elim
  | some d =>
  simp only [e4, Rs.opt_some] at w
  have vw := a3.vw s3.rel e4
  have ex := s3.rel.ex
  cases e5 : nSlc d l u with
  | none => simp only [e5, Rs.opt_none] at w; exact w.elim
  | some o =>
  simp only [e5, Rs.opt_some] at w
  have ko : Kont K H3 Hb3 o Q := fun z H4 Hb4 x1 x2 x3 nw oa => by
    obtain ⟨q1, q2⟩ := OutAt.res s3.rel oa.cl
    exact w z H4 (cl Hb4) (S.trans (s3.rel.grow x1 x2 x3 nw)) k q1 (q2.back S)
  cases d with
  | lst ds =>
    cases e5
    obtain ⟨p, xs, rfl, h1, h2⟩ := vw.lst ex
    exact .inl ⟨p, xs, rfl, h1, fun q hq => ko.li ex hq (cutD_rep h2)⟩
  | tup ds =>
    cases e5
    have vr := vw.rep fun _ => by simp
    obtain ⟨p, xs, rfl, h1, h2⟩ := vw.tup ex
    refine .inr (.inl ⟨p, xs, rfl, h1, fun hw => ?_, fun _ q hq => ko.tu ex hq (cutD_rep h2)⟩)
    rw [← h2.len] at hw
    rw [cutD_whole hw] at ko
    exact ko.dat ex vr
  | str z =>
    obtain ⟨hz, rfl⟩ := guard_some e5
    exact .inr (.inr ⟨z, vw.str, szOk_le hz, ko.dat ex rfl⟩)
  | _ => cases e5
theorem po_opt {o : Option Expr} {lo : Option SE} (h : match o, lo with | none, none => True | some e, some g => DE X e g | _, _ => False) : PO X o (tO X.K lo) := by
  match o, lo, h with
  | none, none, _ => exact po_none
  | some e, some g, h => exact po_some h.pe
theorem d_slc {lo hi : Option Expr} {l u : Option SE} {p2 : Pos} (ha : DE X a f) (hl : match lo, l with | none, none => True | some e, some g => DE X e g | _, _ => False) (hu : match hi, u with | none, none => True | some e, some g => DE X e g | _, _ => False) :
    DE X (.Subscript a (.Slice lo hi none p2) pos) (sSlc f l u) := .of (PE.imp (pe_slice sl_all ha.pe (po_opt hl) (po_opt hu)) fun _ _ _ w => tE_slc w)
end

/-! ## What is walked -/
abbrev SI := Rho → Rs (List D)
structure Wlk (K : Fg) (J : It) (ds : List D) (Hb : Hp) : Prop where
  stop : ∀ H Hc, Ex Hb Hc → Ex Hc H → J.stop ds.length H
  go : ∀ (i : Nat) d H Hc, Ex Hb Hc → Ex Hc H → ds[i]? = some d → J.go i H ∧ ∀ x H', J.yld i H x H' → ∃ Hc', Ex H H' ∧ Ex Hc Hc' ∧ Ex Hc' H' ∧ (∀ a, H a ≠ none → Hc' a = Hc a) ∧ Rep K Hc' d x
def tI (K : Fg) (fi : SI) : TI := fun σ H R => ∃ ρ Hb, Rel K ρ σ H Hb ∧ match fi ρ with
  | .ok ds ρ' => ∀ J H' Hb', Step K ρ σ H Hb ρ' σ H' Hb' → Keep ρ ρ' → Wlk K J ds Hb' → R J H'
  | .bad => False
abbrev DI (X : Cx) (tg iter : Expr) (fi : SI) : Prop := PI X tg iter (tI X.K fi)
theorem PI.imp {X : Cx} {tg e : Expr} {t u : TI} (h : PI X tg e t) (k : ∀ σ H R, u σ H R → t σ H R) : PI X tg e u := ⟨fun pins s σ H R I q => h.run pins s σ H R I (k σ H R q)⟩
theorem PI.or {X : Cx} {tg e : Expr} {t u : TI} (h : PI X tg e t) (h' : PI X tg e u) : PI X tg e (fun σ H R => t σ H R ∨ u σ H R) :=
  ⟨fun pins s σ H R I q => q.elim (fun q => h.run pins s σ H R I q) fun q => h'.run pins s σ H R I q⟩
/-- a list, a tuple -/
def sSeq (f : SE) : SI := fun ρ => (f ρ).bind fun r ρ1 => Rs.opt (frz r ρ1) fun p => match p.1 with
  | .lst ds => .ok ds p.2
  | .tup ds => .ok ds p.2
  | _ => .bad
def rangeD (lo : Int) (n : Nat) : List D := (List.range n).map fun (i : Nat) => D.int (lo + i)
def okR (i : Int) : Bool := decide (-(2 ^ 62) ≤ i) && decide (i < 2 ^ 62)
def sRng1 (f : SE) : SI := fun ρ => (f ρ).bind fun r ρ1 => match r with
  | .val (.int n) => if okR n = true then .ok (rangeD 0 n.toNat) ρ1 else .bad
  | _ => .bad
def sRng2 (f g : SE) : SI := fun ρ => (f ρ).bind fun r ρ1 => (g ρ1).bind fun q ρ2 => match r, q with
  | .val (.int m), .val (.int n) => if (okR m && okR n) = true then .ok (rangeD m (n - m).toNat) ρ2 else .bad
  | _, _ => .bad
def zipD : List D → List D → List D
  | a :: as, b :: bs => .tup [a, b] :: zipD as bs
  | _, _ => []
def enumD (k : Nat) : List D → List D
  | [] => []
  | a :: as => .tup [.int k, a] :: enumD (k + 1) as
section
variable {X : Cx} {a b c e tg : Expr} {f g h : SE} {pos p : Pos} {K : Fg} {σ : L2.St} {H : Hp} {R' : It → Hp → Prop}
theorem wlk_list {Hb : Hp} {l : Addr} {ds : List D} {xs : List V} (h : SqL K Hb l xs) (r : RepL K Hb ds xs) : Wlk K (Itl K l) ds Hb where
  stop := fun H Hc e1 e2 => ⟨xs, Evl.ex_l (e1.trans e2) h, by rw [r.len]; exact Nat.le_refl _⟩
  go := fun i d H Hc e1 e2 q => by
    obtain ⟨x, hx, hr⟩ := r.get q
    refine ⟨⟨xs, x, Evl.ex_l (e1.trans e2) h, hx⟩, fun y H' hy => ?_⟩
    obtain ⟨rfl, hy⟩ := hy
    have := hy xs (Evl.ex_l (e1.trans e2) h)
    rw [hx] at this; cases this
    exact ⟨Hc, Evl.Ex.refl _, Evl.Ex.refl _, e2, fun _ _ => rfl, Rep.mono e1 _ _ hr⟩
theorem wlk_tup {Hb : Hp} {l : Addr} {ds : List D} {xs : List V} (h : SqT K Hb l xs) (r : RepL K Hb ds xs) : Wlk K (Itt K l) ds Hb where
  stop := fun H Hc e1 e2 => ⟨xs, Evl.ex_t (e1.trans e2) h, by rw [r.len]; exact Nat.le_refl _⟩
  go := fun i d H Hc e1 e2 q => by
    obtain ⟨x, hx, hr⟩ := r.get q
    refine ⟨⟨xs, x, Evl.ex_t (e1.trans e2) h, hx⟩, fun y H' hy => ?_⟩
    obtain ⟨rfl, hy⟩ := hy
    have := hy xs (Evl.ex_t (e1.trans e2) h)
    rw [hx] at this; cases this
    exact ⟨Hc, Evl.Ex.refl _, Evl.Ex.refl _, e2, fun _ _ => rfl, Rep.mono e1 _ _ hr⟩
theorem rangeD_get {lo : Int} {n i : Nat} {d : D} (q : (rangeD lo n)[i]? = some d) : i < n ∧ d = .int (lo + i) := by
  unfold rangeD at q
  rw [List.getElem?_map] at q
  by_cases hi : i < n
  · rw [List.getElem?_range hi] at q
    exact ⟨hi, (Option.some.inj q).symm⟩
  · rw [List.getElem?_eq_none (by simpa using hi)] at q
    cases q
theorem rangeD_len {lo : Int} {n : Nat} : (rangeD lo n).length = n := by simp [rangeD]
theorem wlk_range {Hb : Hp} {lo : Int} {n : Nat} : Wlk K (Itr lo n) (rangeD lo n) Hb where
  stop := fun H Hc e1 e2 => by show n ≤ _; rw [rangeD_len]; exact Nat.le_refl _
  go := fun i d H Hc e1 e2 q => by
    obtain ⟨hi, rfl⟩ := rangeD_get q
    refine ⟨hi, fun y H' hy => ?_⟩
    obtain ⟨rfl, rfl⟩ := hy
    exact ⟨Hc, Evl.Ex.refl _, Evl.Ex.refl _, e2, fun _ _ => rfl, rfl⟩
/-- a pair just laid -/
theorem pair_laid {H Hc : Hp} {T : Addr} {d e : D} {x y : V} (e2 : Ex Hc H) (hT : H T = none) (r1 : Rep K Hc d x) (r2 : Rep K Hc e y) :
    ∃ Hc', Ex H (upd H T (.tup [x, y])) ∧ Ex Hc Hc' ∧ Ex Hc' (upd H T (.tup [x, y])) ∧ (∀ a, H a ≠ none → Hc' a = Hc a) ∧ Rep K Hc' (.tup [d, e]) (.ref T) := by
  have hb := Evl.fresh_back e2 hT
  refine ⟨upd Hc T (.tup [x, y]), Evl.Ex.new hT, Evl.Ex.new hb, fun a o q => ?_, fun a q => ?_, ⟨T, [x, y], rfl, Evl.st_of upd_same, ?_⟩⟩
  · by_cases z : a = T
    · subst z; rw [upd_same] at q; rw [← q, upd_same]
    · rw [upd_ne z] at q; rw [upd_ne z]; exact e2 a o q
  · rw [upd_ne (fun z => q (by rw [z]; exact hT))]
  · exact RepL.mono (Evl.Ex.new hb) _ _ (.cons r1 (.one r2))
theorem zipD_get : ∀ {as bs : List D} {i : Nat} {d : D}, (zipD as bs)[i]? = some d → ∃ a b, as[i]? = some a ∧ bs[i]? = some b ∧ d = .tup [a, b]
  | [], _, i, d, h => by simp [zipD] at h
  | _ :: _, [], i, d, h => by simp [zipD] at h
  | a :: as, b :: bs, 0, d, h => ⟨a, b, rfl, rfl, by simp [zipD] at h; exact h.symm⟩
  | a :: as, b :: bs, i + 1, d, h => by
    have h' : (zipD as bs)[i]? = some d := by simpa [zipD] using h
    obtain ⟨x, y, h1, h2, h3⟩ := zipD_get h'
    exact ⟨x, y, by simpa using h1, by simpa using h2, h3⟩
theorem zipD_len : ∀ (as bs : List D), (zipD as bs).length = min as.length bs.length
  | [], _ => by simp [zipD]
  | _ :: _, [] => by simp [zipD]
  | _ :: as, _ :: bs => by simp [zipD, zipD_len as bs]
theorem wlk_zip {Hb : Hp} {l m : Addr} {ds es : List D} {xs ys : List V} (h : SqL K Hb l xs) (r : RepL K Hb ds xs) (h' : SqL K Hb m ys) (r' : RepL K Hb es ys) : Wlk K (Itz K l m) (zipD ds es) Hb where
  stop := fun H Hc e1 e2 => by
    refine ⟨xs, ys, Evl.ex_l (e1.trans e2) h, Evl.ex_l (e1.trans e2) h', ?_⟩
    rw [zipD_len, r.len, r'.len]; omega
  go := fun i d H Hc e1 e2 q => by
    obtain ⟨d1, d2, q1, q2, rfl⟩ := zipD_get q
    obtain ⟨x, hx, hr⟩ := r.get q1
    obtain ⟨y, hy, hr'⟩ := r'.get q2
    refine ⟨⟨xs, ys, x, y, Evl.ex_l (e1.trans e2) h, Evl.ex_l (e1.trans e2) h', hx, hy⟩, fun z H' hz => ?_⟩
    obtain ⟨T, x', y', rfl, hT, rfl, k1, k2⟩ := hz
    have w1 := k1 xs (Evl.ex_l (e1.trans e2) h)
    have w2 := k2 ys (Evl.ex_l (e1.trans e2) h')
    rw [hx] at w1; cases w1
    rw [hy] at w2; cases w2
    exact pair_laid e2 hT (Rep.mono e1 _ _ hr) (Rep.mono e1 _ _ hr')
theorem wlk_zipT {Hb : Hp} {l m : Addr} {ds es : List D} {xs ys : List V} (h : SqT K Hb l xs) (r : RepL K Hb ds xs) (h' : SqT K Hb m ys) (r' : RepL K Hb es ys) : Wlk K (RZ.ItzT K l m) (zipD ds es) Hb where
  stop := fun H Hc e1 e2 => by
    refine ⟨xs, ys, Evl.ex_t (e1.trans e2) h, Evl.ex_t (e1.trans e2) h', ?_⟩
    rw [zipD_len, r.len, r'.len]; omega
  go := fun i d H Hc e1 e2 q => by
    obtain ⟨d1, d2, q1, q2, rfl⟩ := zipD_get q
    obtain ⟨x, hx, hr⟩ := r.get q1
    obtain ⟨y, hy, hr'⟩ := r'.get q2
    refine ⟨⟨xs, ys, x, y, Evl.ex_t (e1.trans e2) h, Evl.ex_t (e1.trans e2) h', hx, hy⟩, fun z H' hz => ?_⟩
    obtain ⟨T, x', y', rfl, hT, rfl, k1, k2⟩ := hz
    have w1 := k1 xs (Evl.ex_t (e1.trans e2) h)
    have w2 := k2 ys (Evl.ex_t (e1.trans e2) h')
    rw [hx] at w1; cases w1
    rw [hy] at w2; cases w2
    exact pair_laid e2 hT (Rep.mono e1 _ _ hr) (Rep.mono e1 _ _ hr')
theorem enumD_get : ∀ {as : List D} {k i : Nat} {d : D}, (enumD k as)[i]? = some d → ∃ a, as[i]? = some a ∧ d = .tup [.int ((k + i : Nat) : Int), a]
  | [], _, i, d, h => by simp [enumD] at h
  | a :: as, k, 0, d, h => ⟨a, rfl, by simp [enumD] at h; exact h.symm⟩
  | a :: as, k, i + 1, d, h => by
    have h' : (enumD (k + 1) as)[i]? = some d := by simpa [enumD] using h
    obtain ⟨x, h1, h3⟩ := enumD_get h'
    exact ⟨x, by simpa using h1, by rw [h3]; congr 4; omega⟩
theorem enumD_len : ∀ (k : Nat) (as : List D), (enumD k as).length = as.length
  | _, [] => rfl
  | k, _ :: as => by simp [enumD, enumD_len (k + 1) as]
theorem wlk_enum {Hb : Hp} {l : Addr} {ds : List D} {xs : List V} (h : SqL K Hb l xs) (r : RepL K Hb ds xs) : Wlk K (Ite K l) (enumD 0 ds) Hb where
  stop := fun H Hc e1 e2 => ⟨xs, Evl.ex_l (e1.trans e2) h, by rw [enumD_len, r.len]; exact Nat.le_refl _⟩
  go := fun i d H Hc e1 e2 q => by
    obtain ⟨d1, q1, rfl⟩ := enumD_get q
    obtain ⟨x, hx, hr⟩ := r.get q1
    refine ⟨⟨xs, x, Evl.ex_l (e1.trans e2) h, hx⟩, fun z H' hz => ?_⟩
    obtain ⟨T, x', rfl, hT, rfl, k1⟩ := hz
    have w1 := k1 xs (Evl.ex_l (e1.trans e2) h)
    rw [hx] at w1; cases w1
    rw [Nat.zero_add]
    exact pair_laid e2 hT rfl (Rep.mono e1 _ _ hr)

theorem tI_seq (w : tI K (sSeq f) σ H R') : iList K (tE K f) σ H R' ∨ iTup K (tE K f) σ H R' := by
  obtain ⟨ρ, Hb, rel, w⟩ := w
  simp only [sSeq] at w
  cases e1 : f ρ with
  | bad => simp only [e1, Rs.bind_bad] at w
  | ok r ρ1 =>
  simp only [e1, Rs.bind_ok] at w
  cases e2 : frz r ρ1 with
  | none => simp only [e2, Rs.opt_none] at w
  | some p =>
  obtain ⟨d, ρ2⟩ := p
  simp only [e2, Rs.opt_some] at w
  cases d with
  | lst ds =>
    refine .inl ⟨ρ, Hb, rel, ?_⟩
    rw [e1]
    intro v H1 Hb1 s1 k1 r1 f1
    obtain ⟨Hb2, s2, k2, x2, rp, _, _⟩ := frz_ok s1 r1 f1 e2
    obtain ⟨a, xs, rfl, h1, h2⟩ := rp
    exact ⟨a, rfl, ⟨xs, Evl.ex_l s2.rel.ex h1⟩, w _ H1 Hb2 s2 (k1.trans k2) (wlk_list h1 h2)⟩
  | tup ds =>
    refine .inr ⟨ρ, Hb, rel, ?_⟩
    rw [e1]
    intro v H1 Hb1 s1 k1 r1 f1
    obtain ⟨Hb2, s2, k2, x2, rp, _, _⟩ := frz_ok s1 r1 f1 e2
    obtain ⟨a, xs, rfl, h1, h2⟩ := rp
    exact ⟨a, rfl, ⟨xs, Evl.ex_t s2.rel.ex h1⟩, w _ H1 Hb2 s2 (k1.trans k2) (wlk_tup h1 h2)⟩
  | _ => exact absurd w (by simp)
theorem di_seq (ha : DE X a f) : DI X tg a (sSeq f) := PI.imp (PI.or (pi_list ha.pe) (pi_tup ha.pe)) fun _ _ _ w => tI_seq w
theorem okR_iff {i : Int} (h : okR i = true) : -(2 ^ 62) ≤ i ∧ i < 2 ^ 62 := by
  unfold okR at h
  obtain ⟨h1, h2⟩ := Bool.and_eq_true_iff.mp h
  exact ⟨of_decide_eq_true h1, of_decide_eq_true h2⟩
theorem tI_rng1 (w : tI K (sRng1 f) σ H R') : iRng1 (tA K [f]) σ H R' := by
  obtain ⟨ρ, Hb, rel, w⟩ := w
  refine ⟨ρ, Hb, rel, ?_⟩
  simp only [sRng1] at w
  simp only [evs]
  cases e1 : f ρ with
  | bad => simp only [e1, Rs.bind_bad] at w
  | ok r ρ1 =>
  simp only [e1, Rs.bind_ok] at w
  rw [Rs.bind_ok, Rs.bind_ok]
  intro vs H1 Hb1 s1 k1 r1 f1 a1
  obtain ⟨v, t, rfl, r1, rt⟩ := r1
  cases (show t = [] from rt)
  match r, w, r1 with
  | .val (.int n), w, r1 =>
    by_cases hn : okR n = true
    · simp only [if_pos hn] at w
      obtain ⟨h1, h2⟩ := okR_iff hn
      exact ⟨n, by rw [show v = .int n from r1], h1, h2, w _ H1 Hb1 s1 k1 wlk_range⟩
    · simp only [if_neg hn] at w
theorem tI_rng2 (w : tI K (sRng2 f g) σ H R') : iRng2 (tA K [f, g]) σ H R' := by
  obtain ⟨ρ, Hb, rel, w⟩ := w
  refine ⟨ρ, Hb, rel, ?_⟩
  simp only [sRng2] at w
  simp only [evs]
  cases e1 : f ρ with
  | bad => simp only [e1, Rs.bind_bad] at w
  | ok r ρ1 =>
  simp only [e1, Rs.bind_ok] at w
  rw [Rs.bind_ok]
  cases e2 : g ρ1 with
  | bad => simp only [e2, Rs.bind_bad] at w
  | ok q ρ2 =>
  simp only [e2, Rs.bind_ok] at w
  rw [Rs.bind_ok, Rs.bind_ok, Rs.bind_ok]
  intro vs H1 Hb1 s1 k1 r1 f1 a1
  obtain ⟨v, t, rfl, r1, v2, t2, rfl, r2, rt⟩ := r1
  cases (show t2 = [] from rt)
  match r, q, w, r1, r2 with
  | .val (.int m), .val (.int n), w, r1, r2 =>
    by_cases hn : (okR m && okR n) = true
    · simp only [if_pos hn] at w
      obtain ⟨h1, h2⟩ := Bool.and_eq_true_iff.mp hn
      obtain ⟨a1, a2⟩ := okR_iff h1
      obtain ⟨b1, b2⟩ := okR_iff h2
      exact ⟨m, n, by rw [show v = .int m from r1, show v2 = .int n from r2], ⟨a1, a2, b1, b2⟩, w _ H1 Hb1 s1 k1 wlk_range⟩
    · simp only [if_neg hn] at w
theorem di_rng1 (hg : Gl X "range") (hm : X.mg "range" = none) (ha : DE X a f) (hs : starEach [a] X.env = [(false, eval a X.env)] := by rfl) : DI X tg (.Call (.Name "range" p) [a] [] pos) (sRng1 f) :=
  PI.imp (pi_range1 hg hm (da_cons ha da_nil hs) hs) fun _ _ _ w => tI_rng1 w
theorem di_rng2 (hg : Gl X "range") (hm : X.mg "range" = none) (ha : DE X a f) (hb : DE X b g) (hs : starEach [a, b] X.env = [(false, eval a X.env), (false, eval b X.env)] := by rfl) (hs2 : starEach [b] X.env = [(false, eval b X.env)] := by rfl) :
    DI X tg (.Call (.Name "range" p) [a, b] [] pos) (sRng2 f g) :=
  PI.imp (pi_range2 hg hm (da_cons ha (da_cons hb da_nil hs2) (by rw [hs, hs2])) hs hs2) fun _ _ _ w => tI_rng2 w
end
end Sa

/-! enumerate of a tuple -/
namespace Sa
open PySem L2 PySem.Spec PyProof.Rows

theorem enum_meets1 {v : Value} {o : Obj} {G : Heap → Prop} (B : Begins v o G) :
    Meets (Builtin.«enumerate.__new__» ⟨[.type "enumerate", v], []⟩)
      (fun _ R s => G s.heap ∧ R (.ok (.ret (.ref (s.heap.push o).objs.size)))
        { s with heap := (s.heap.push o).push { cls := .type "enumerate", data := .fields #[.none, .bool false, .ref s.heap.objs.size, rawInt 0, .none, .none] } }) :=
  .of_wp fun prog w A R s h => by
    obtain ⟨hp, g, d, tk, os⟩ := s
    obtain ⟨hG, h⟩ := h
    have sub := sub_enumerate
    have begins : ∀ {A' : Around} {E Q : Value → Shared → Prop}, Q (.ref hp.objs.size) ⟨hp.push o, g, d, tk, os⟩ → wpAny (model prog w) A' (pyIter v) Q E ⟨hp, g, d, tk, os⟩ :=
      fun q => B.iter prog w _ _ ⟨hp, g, d, tk, os⟩ _ hG q
    wp_walk using begins
    refine wpAny_stack_any fun _ => wpAny_pure ?_
    split
    · rename_i c _ _ _ _ _
      cases (c == Value.type "enumerate") <;>
        (wp_walk using begins
         exact ⟨_, rfl, h⟩)
    · wp_walk using begins
      exact ⟨_, rfl, h⟩
section
variable {prog : Program} {w : World} {A : Around} {E : Value → Shared → Prop} {s : Shared}
theorem enum_call1 {v : Value} {o : Obj} {G : Heap → Prop} {Q : Value → Shared → Prop} (B : Begins v o G) (hG : G s.heap)
    (h : ∀ h', IsEnum h' (s.heap.objs.size + 1) s.heap.objs.size 0 .none → h'.get? s.heap.objs.size = some o →
      (∀ b o, s.heap.get? b = some o → h'.get? b = some o) → Q (.ref (s.heap.objs.size + 1)) { s with heap := h' }) :
    wpAny (model prog w) A (call (.type "enumerate") [v]) Q E s := by
  refine callType_new F.called_enumerate (by decide) (F.typeCall_enumerate_1 _) (F.newCall_enumerate_1 _)
    (fun obj => F.args_object_init_2 obj _) F.entry_enumerate_new (enum_meets1 B) ⟨hG, ?_⟩
  have sz : (s.heap.push o).objs.size = s.heap.objs.size + 1 := Heap.size_push ..
  show _ ∧ _
  rw [sz]
  have en : IsEnum ((s.heap.push o).push { cls := .type "enumerate", data := .fields #[.none, .bool false, .ref s.heap.objs.size, rawInt 0, .none, .none] })
      (s.heap.objs.size + 1) s.heap.objs.size 0 .none := by
    have q := Heap.get?_push_size (s.heap.push o)
      (o := { cls := .type "enumerate", data := .fields #[.none, .bool false, .ref s.heap.objs.size, rawInt 0, .none, .none] }) rfl
    rw [sz] at q
    exact q
  exact ⟨⟨_, en, rfl⟩, h _ en (Heap.get?_push_of_some _ (Heap.get?_push_size _ B.free)) fun b o x => Heap.get?_push_of_some _ (Heap.get?_push_of_some _ x)⟩
end
/-- the tuple at a, its items numbered, in new pairs -/
def IteT (K : PySem.W.Frag) (a : Addr) : It :=
  ⟨fun i H => ∃ (xs : List V) (x : V), SqT K H a xs ∧ xs[i]? = some x,
   fun i H v H' => ∃ T x, v = .ref T ∧ H T = none ∧ H' = upd H T (.tup [.int (i : Nat), x]) ∧ ∀ xs, SqT K H a xs → xs[i]? = some x,
   fun i H => ∃ xs : List V, SqT K H a xs ∧ xs.length = i⟩
theorem turn_enumT {P : Program} {w : World} {K : PySem.W.Frag} {elts : List Expr} {kk : Nat} {tpos : Pos} (a e it : Addr) :
    Turn P w K (.Tuple elts kk tpos) (IteT K a) [e, it] e (fun i h => (∃ old, IsEnum h e it ((i : Nat) : Int) old) ∧ h.IsTupleIter it a i ∧ e ≠ it ∧ a ≠ it) where
  mem := by simp
  obj := fun i h st b hb => by
    obtain ⟨⟨old, he⟩, ⟨o, ho, hc, hd⟩, _⟩ := st
    rcases (show b = e ∨ b = it by simpa using hb) with z | z <;> rw [z]
    · exact ⟨_, he, fun v q => nomatch q⟩
    · exact ⟨o, ho, fun v q => by rw [hd] at q; cases q⟩
  keep := fun i h h' st k => by
    obtain ⟨⟨old, he⟩, hi, hne, ha⟩ := st
    exact ⟨⟨old, k e (by simp) _ he⟩, hi.at fun o q => k it (by simp) o q, hne, ha⟩
  item := by
    intro X hP hw hK hc i pins s σ H E I hf st hg
    subst hP hw hK
    obtain ⟨⟨old, he⟩, hit, hne, ha⟩ := st
    obtain ⟨xs, x, hq, hx⟩ := hg
    obtain ⟨its, rv, p, hz⟩ := I.tuple hq
    obtain ⟨u, hu, ru⟩ := rv.get hx
    have elt : e < s.heap.objs.size := Heap.lt_size he
    have ilt : it < s.heap.objs.size := by
      obtain ⟨_, q, _⟩ := hit
      exact Heap.lt_size q
    by_cases hae : a = e
    · obtain ⟨o, q1, q2, _⟩ := p
      rw [hae, he] at q1
      cases q1
      exact absurd q2 (by simp)
    have Dr := Draws.tuple (prog := X.prog) (w := X.w) (A := X.A.in1) (I.ok.hd hc) it a ha its.toArray
    have hi : i < its.toArray.size := by
      have q := (List.getElem?_eq_some_iff.mp hu).1
      simpa using q
    refine wpAny_pyNext_enum_itemD (i := i) Dr he ⟨hit, p⟩ hi hne (by simp [hne, Ne.symm hae]) fun y h' tk hy ho hst hT hsz hk => ?_
    have ey : y = u := by
      rw [show its.toArray[i]? = some u by simpa using hu] at hy
      exact (Option.some.inj hy).symm
    subst ey
    refine ⟨_, rfl, wpAny_letOwnedTupleGo_enum (s := { s with heap := h', toks := tk + 1 }) ho fun h'' he' sb => ?_⟩
    have hT2 : h''.get? s.heap.objs.size = some { cls := .type "tuple", data := .seq #[.int i tk, y] } := (sb.2 _ (Nat.ne_of_gt elt)).trans hT
    have laid : ObjOk X.prog X.w (upd H s.heap.objs.size (.tup [.int (i : Nat), x])) h'' s.heap.objs.size (.tup [.int (i : Nat), x]) :=
      ⟨by show 2 ≤ sizeLine; decide, [.int i tk, y], .cons ⟨_, rfl⟩ (.cons ru .nil), ⟨_, hT2, rfl, _, rfl⟩⟩
    have I1 : Inv X pins σ (upd H s.heap.objs.size (.tup [.int (i : Nat), x])) { s with heap := h'', toks := tk + 1 } :=
      I.turnedNew (ch := [e, it]) (fun b ob hb q => (sb.2 b (fun z => hb (by simp [z]))).trans (hk b ob (fun z => hb (by simp [z])) (fun z => hb (by simp [z])) q)) hf (Nat.le_refl _) laid
    refine ⟨.ref s.heap.objs.size, _, I1, rfl, ⟨_, x, rfl, I.hok.fresh (Nat.le_refl _), rfl, fun ys hy => by rw [I.tuple_inj hy hq]; exact hx⟩, ⟨⟨y, ?_⟩, hst.1.at fun o q => (sb.2 it (Ne.symm hne)).trans q, hne, ha⟩, fun b hb => ?_⟩
    · have e1 : ((i + 1 : Nat) : Int) = (i : Int) + 1 := by omega
      rw [e1]
      exact he'
    · have blt : b < s.heap.objs.size := by
        rcases (show b = e ∨ b = it by simpa using hb) with z | z <;> rw [z]
        · exact elt
        · exact ilt
      rw [upd_ne (Nat.ne_of_lt blt)]
      exact (hf b hb).1
  done := by
    intro X hP hw hK hc i pins s σ H E I hf st hg
    subst hP hw hK
    obtain ⟨⟨old, he⟩, hit, hne, ha⟩ := st
    obtain ⟨xs, hq, hx⟩ := hg
    obtain ⟨its, rv, p, hz⟩ := I.tuple hq
    obtain ⟨f0, f1, f2, f3, f4, f5⟩ := hf it (by simp)
    have hl := rv.length
    have Dr := Draws.tuple (prog := X.prog) (w := X.w) (A := X.A.in1) (I.ok.hd hc) it a ha its.toArray
    have hi : i = its.toArray.size := by rw [List.size_toArray, ← hl, hx]
    subst hi
    exact wpAny_pyNext_enum_endD Dr he ⟨hit, p⟩ fun h' eb => ⟨rfl, I.turned (t' := s.toks) (fun b o hb q => eb b o hb q) f0 f1 f3 f4 f5⟩
  self := fun A i s Q E st h => by
    obtain ⟨⟨_, he⟩, _⟩ := st
    exact wpAny_pyIter_enum he h

def iEnumT (K : PySem.W.Frag) (ta : TA) : TI := fun σ H R => ta σ H fun vs H1 => ∃ a xs, vs = [.ref a] ∧ SqT K H1 a xs ∧ R (IteT K a) H1
theorem pi_enumT {X : Cx} {e : Expr} {ta : TA} {p pos tpos : Pos} {elts : List Expr} {kk : Nat} (hg : Gl X "enumerate") (hm : X.mg "enumerate" = none) (ha : PA X [e] ta) (hs : starEach [e] X.env = [(false, eval e X.env)] := by rfl) :
    PI X (.Tuple elts kk tpos) (.Call (.Name "enumerate" p) [e] [] pos) (iEnumT X.K ta) := by
  refine ⟨fun pins s σ H R I h => ?_⟩
  refine Call_ (ld_blt I hg hm boot_enumerate (PyProof.Rows.callWith_type1 (thn (ha.run pos pins s σ H _ I h) fun us s1 ⟨vs, H1, I1, r1, q1⟩ => ?_) hs rfl))
  obtain ⟨a, xs, rfl, hq, q⟩ := q1
  cases r1 with
  | cons r rr =>
    cases rr
    cases r
    obtain ⟨its, rv, tp, hz⟩ := I1.tuple hq
    have B := begins_tuple a its.toArray
    refine enum_call1 B tp fun h' he hit hk => ?_
    have hti : h'.IsTupleIter s1.heap.objs.size a 0 := ⟨_, hit, rfl, rfl⟩
    have I2 : Inv X pins σ H1 { s1 with heap := h' } := I1.kept (t' := s1.toks) hk
    have alt : a < s1.heap.objs.size := tp.lt
    have fr : ∀ b ∈ [s1.heap.objs.size + 1, s1.heap.objs.size], FpOk X pins H1 b := fun b hb => by
      have hle : s1.heap.objs.size ≤ b := by
        rcases (show b = s1.heap.objs.size + 1 ∨ b = s1.heap.objs.size by simpa using hb) with z | z <;> rw [z]
        · exact Nat.le_add_right _ _
        · exact Nat.le_refl _
      exact I1.fpOk hle (I1.hok.fresh hle)
    have T := turn_enumT (P := X.prog) (w := X.w) (K := X.K) (elts := elts) (kk := kk) (tpos := tpos) a (s1.heap.objs.size + 1) s1.heap.objs.size
    refine wpAny_pyIter_enum he ?_
    exact ⟨s1.heap.objs.size + 1, [s1.heap.objs.size + 1, s1.heap.objs.size], _, _, H1, rfl, I2, T, ⟨⟨.none, he⟩, hti, Nat.succ_ne_self _, Nat.ne_of_lt alt⟩, fr, q⟩
theorem wlk_enumT {K : Fg} {Hb : Hp} {l : Addr} {ds : List D} {xs : List V} (h : SqT K Hb l xs) (r : RepL K Hb ds xs) : Wlk K (IteT K l) (enumD 0 ds) Hb where
  stop := fun H Hc e1 e2 => ⟨xs, Evl.ex_t (e1.trans e2) h, by rw [enumD_len, r.len]⟩
  go := fun i d H Hc e1 e2 q => by
    obtain ⟨d1, q1, rfl⟩ := enumD_get q
    obtain ⟨x, hx, hr⟩ := r.get q1
    refine ⟨⟨xs, x, Evl.ex_t (e1.trans e2) h, hx⟩, fun z H' hz => ?_⟩
    obtain ⟨T, x', rfl, hT, rfl, k1⟩ := hz
    have w1 := k1 xs (Evl.ex_t (e1.trans e2) h)
    rw [hx] at w1; cases w1
    rw [Nat.zero_add]
    exact pair_laid e2 hT rfl (Rep.mono e1 _ _ hr)
/-! ### enumerate, zip as what is walked -/
def sEnum (f : SE) : SI := fun ρ => (f ρ).bind fun r ρ1 => Rs.opt (frz r ρ1) fun p => match p.1 with
  | .lst ds => .ok (enumD 0 ds) p.2
  | .tup ds => .ok (enumD 0 ds) p.2
  | _ => .bad
def sZip (f g : SE) : SI := fun ρ => (evs [f, g] ρ).bind fun rs ρ1 => Rs.opt (frzs rs ρ1) fun p => match p.1 with
  | [.lst ds, .lst es] => .ok (zipD ds es) p.2
  | [.tup ds, .tup es] => .ok (zipD ds es) p.2
  | _ => .bad
section
variable {X : Cx} {a b : Expr} {f g : SE} {pos p tpos : Pos} {elts : List Expr} {kk : Nat} {K : Fg} {σ : L2.St} {H : Hp} {R' : It → Hp → Prop}
theorem tI_enum (w : tI K (sEnum f) σ H R') : iEnum K (tA K [f]) σ H R' ∨ iEnumT K (tA K [f]) σ H R' := by
  obtain ⟨ρ, Hb, rel, w⟩ := w
  simp only [sEnum] at w
  cases e1 : f ρ with
  | bad => simp only [e1, Rs.bind_bad] at w
  | ok r ρ1 =>
  simp only [e1, Rs.bind_ok] at w
  cases e2 : frz r ρ1 with
  | none => simp only [e2, Rs.opt_none] at w
  | some q =>
  obtain ⟨d, ρ2⟩ := q
  simp only [e2, Rs.opt_some] at w
  have ev : evs [f] ρ = .ok [r] ρ1 := by simp only [evs, e1, Rs.bind_ok]
  cases d with
  | lst ds =>
    refine .inl ⟨ρ, Hb, rel, ?_⟩
    rw [ev]
    intro vs H1 Hb1 s1 k1 r1 f1 _
    obtain ⟨v, t, rfl, r1, rt⟩ := r1
    cases (show t = [] from rt)
    obtain ⟨Hb2, s2, k2, x2, rp, _, _⟩ := frz_ok s1 r1 f1.1 e2
    obtain ⟨a, xs, rfl, h1, h2⟩ := rp
    exact ⟨a, xs, rfl, Evl.ex_l s2.rel.ex h1, w _ H1 Hb2 s2 (k1.trans k2) (wlk_enum h1 h2)⟩
  | tup ds =>
    refine .inr ⟨ρ, Hb, rel, ?_⟩
    rw [ev]
    intro vs H1 Hb1 s1 k1 r1 f1 _
    obtain ⟨v, t, rfl, r1, rt⟩ := r1
    cases (show t = [] from rt)
    obtain ⟨Hb2, s2, k2, x2, rp, _, _⟩ := frz_ok s1 r1 f1.1 e2
    obtain ⟨a, xs, rfl, h1, h2⟩ := rp
    exact ⟨a, xs, rfl, Evl.ex_t s2.rel.ex h1, w _ H1 Hb2 s2 (k1.trans k2) (wlk_enumT h1 h2)⟩
  | _ => exact absurd w (by simp)
theorem di_enum (hg : Gl X "enumerate") (hm : X.mg "enumerate" = none) (ha : DE X a f) (hs : starEach [a] X.env = [(false, eval a X.env)] := by rfl) : DI X (.Tuple elts kk tpos) (.Call (.Name "enumerate" p) [a] [] pos) (sEnum f) :=
  PI.imp (PI.or (pi_enum hg hm (da_cons ha da_nil hs) hs) (pi_enumT hg hm (da_cons ha da_nil hs) hs)) fun _ _ _ w => tI_enum w
theorem tI_zip (w : tI K (sZip f g) σ H R') : RZ.iZipA K (tA K [f, g]) σ H R' := by
  obtain ⟨ρ, Hb, rel, w⟩ := w
  refine ⟨ρ, Hb, rel, ?_⟩
  simp only [sZip] at w
  cases e1 : evs [f, g] ρ with
  | bad => simp only [e1, Rs.bind_bad] at w
  | ok rs ρ1 =>
  simp only [e1, Rs.bind_ok] at w
  intro vs H1 Hb1 s1 k1 r1 f1 a1
  cases e2 : frzs rs ρ1 with
  | none => simp only [e2, Rs.opt_none] at w
  | some q =>
  obtain ⟨ds, ρ2⟩ := q
  simp only [e2, Rs.opt_some] at w
  obtain ⟨Hb2, s2, k2, x2, rl⟩ := frzs_ok s1 r1 f1 a1 e2
  match ds, w, rl with
  | [.lst ds, .lst es], w, rl =>
    obtain ⟨v, t, rfl, ⟨a, xs, rfl, h1, h2⟩, v2, t2, rfl, ⟨b, ys, rfl, h3, h4⟩, rt⟩ := rl
    cases (show t2 = [] from rt)
    exact ⟨a, b, xs, ys, rfl, .inl ⟨Evl.ex_l s2.rel.ex h1, Evl.ex_l s2.rel.ex h3, w _ H1 Hb2 s2 (k1.trans k2) (wlk_zip h1 h2 h3 h4)⟩⟩
  | [.tup ds, .tup es], w, rl =>
    obtain ⟨v, t, rfl, ⟨a, xs, rfl, h1, h2⟩, v2, t2, rfl, ⟨b, ys, rfl, h3, h4⟩, rt⟩ := rl
    cases (show t2 = [] from rt)
    exact ⟨a, b, xs, ys, rfl, .inr ⟨Evl.ex_t s2.rel.ex h1, Evl.ex_t s2.rel.ex h3, w _ H1 Hb2 s2 (k1.trans k2) (wlk_zipT h1 h2 h3 h4)⟩⟩
theorem di_zip (hg : Gl X "zip") (hm : X.mg "zip" = none) (ha : DE X a f) (hb : DE X b g) (hs : starEach [a, b] X.env = (false, eval a X.env) :: starEach [b] X.env := by rfl) (hs2 : starEach [b] X.env = [(false, eval b X.env)] := by rfl)
    (hpl : (backTo pos (starEach [b] X.env)).any (·.1) = false := by rfl) : DI X (.Tuple elts kk tpos) (.Call (.Name "zip" p) [a, b] [] pos) (sZip f g) :=
  PI.imp (RZ.pi_zipA hg hm (da_cons ha (da_cons hb da_nil hs2) hs) hs hpl) fun _ _ _ w => tI_zip w
end
end Sa

namespace Sa
open PySem L2 PySem.Spec PyProof.Rows
open Evl (Ex)

/-! ## Targets -/
abbrev STg := D → Rho → Option Rho
structure TgOk (sl : List Nat) (t : STg) : Prop where
  ok : ∀ d ρ ρ', t d ρ = some ρ' → ρ'.length = ρ.length ∧ ∀ j, j ∉ sl → ρ'[j]? = ρ[j]?
def tG (K : Fg) (sl : List Nat) (t : STg) : TG := fun v σ H Q => ∃ ρ Hb d, Rel K ρ σ H Hb ∧ Rep K Hb d v ∧ match t d ρ with
  | some ρ' => ∀ σ', Step K ρ σ H Hb ρ' σ' H Hb → Pin ρ σ ρ' σ' → σ'.length = σ.length → (∀ j, j ∉ sl → σ'[j]? = σ[j]?) → Q σ' H
  | none => False
structure DG (X : Cx) (tg : Expr) (sl : List Nat) (t : STg) : Prop where
  pg : PG X tg (tG X.K sl t)
  ok : TgOk sl t
theorem PG.imp {X : Cx} {e : Expr} {t u : TG} (h : PG X e t) (k : ∀ v σ H Q, u v σ H Q → t v σ H Q) : PG X e u := ⟨fun pins s σ H v w Q I r q => h.run pins s σ H v w Q I r (k v σ H Q q)⟩
theorem PGs.imp {X : Cx} {e : List Expr} {t u : TGs} (h : PGs X e t) (k : ∀ v σ H Q, u v σ H Q → t v σ H Q) : PGs X e u := ⟨fun pins s σ H v w Q I r q => h.run pins s σ H v w Q I r (k v σ H Q q)⟩
def Sl.pinned : Sl → Bool
  | .val _ p => p
  | .own _ p => p
  | .non => false
def gN (i : Nat) : STg := fun d ρ => match ρ[i]? with
  | some s => if s.pinned = true then none else some (ρ.set i (.val d false))
  | none => none
def gsT : List STg → List D → Rho → Option Rho
  | [], [], ρ => some ρ
  | t :: ts, d :: ds, ρ => (t d ρ).bind (gsT ts ds)
  | _, _, _ => none
def gT (ts : List STg) : STg := fun d ρ => match d with
  | .tup ds => gsT ts ds ρ
  | _ => none
def tGs (K : Fg) (sl : List Nat) (ts : List STg) : TGs := fun vs σ H Q => ∃ ρ Hb ds, Rel K ρ σ H Hb ∧ RepL K Hb ds vs ∧ match gsT ts ds ρ with
  | some ρ' => ∀ σ', Step K ρ σ H Hb ρ' σ' H Hb → Pin ρ σ ρ' σ' → σ'.length = σ.length → (∀ j, j ∉ sl → σ'[j]? = σ[j]?) → Q σ' H
  | none => False
structure TgsOk (sl : List Nat) (ts : List STg) : Prop where
  ok : ∀ ds ρ ρ', gsT ts ds ρ = some ρ' → ρ'.length = ρ.length ∧ ∀ j, j ∉ sl → ρ'[j]? = ρ[j]?
structure DGs (X : Cx) (tg : List Expr) (sl : List Nat) (ts : List STg) : Prop where
  pg : PGs X tg (tGs X.K sl ts)
  ok : TgsOk sl ts
  len : tg.length = ts.length
section
variable {X : Cx} {K : Fg} {ρ ρ1 ρ2 ρ' : Rho} {σ σ1 σ2 σ' : L2.St} {H H1 H' Hb Hb1 Hb' : Hp} {pos : Pos} {e : Expr} {es : List Expr}
/-- a slot that is not pinned takes data -/
theorem set_val {i : Nat} {s : Sl} {d : D} {v : V} (rel : Rel K ρ σ H Hb) (hs : ρ[i]? = some s) (hp : s.pinned = false) (r : Rep K Hb d v) :
    Step K ρ σ H Hb (ρ.set i (.val d false)) (σ.set i (some v)) H Hb ∧ Pin ρ σ (ρ.set i (.val d false)) (σ.set i (some v)) := by
  have hi : i < ρ.length := (List.getElem?_eq_some_iff.mp hs).1
  have hiσ : i < σ.length := by rw [← rel.len]; exact hi
  have back : ∀ (j : Nat) o p, (ρ.set i (.val d false))[j]? = some (.own o p) → j ≠ i ∧ ρ[j]? = some (.own o p) := fun j o p h => by
    by_cases z : i = j
    · subst z; rw [List.getElem?_set_self hi] at h; cases h
    · rw [List.getElem?_set_ne z] at h; exact ⟨fun y => z y.symm, h⟩
  have sg : ∀ (j : Nat), j ≠ i → (σ.set i (some v))[j]? = σ[j]? := fun j z => List.getElem?_set_ne (Ne.symm z)
  have osub : ∀ p a, OwnF (ρ.set i (.val d false)) (σ.set i (some v)) p a → OwnF ρ σ p a := fun p a ⟨j, o, h1, h2⟩ => by
    obtain ⟨z, h3⟩ := back j o p h1
    rw [sg j z] at h2
    exact ⟨j, o, h3, h2⟩
  refine ⟨⟨⟨rel.ex, by rw [List.length_set, List.length_set]; exact rel.len, fun j d' p h => ?_, fun j o p h => ?_, fun j k o p o' p' l a b c f => ?_, rel.nt, rel.tb⟩, Evl.Ex.refl _, fun _ _ h _ _ => h, fun _ _ h _ => h, fun p a z => .inl (osub p a z), fun _ h => h⟩,
    ⟨by rw [List.length_set], fun j d' h => ?_, fun j o h => ?_⟩⟩
  · by_cases z : i = j
    · subst z
      rw [List.getElem?_set_self hi] at h; cases h
      exact ⟨v, List.getElem?_set_self hiσ, r⟩
    · rw [List.getElem?_set_ne z] at h
      rw [List.getElem?_set_ne z]
      exact rel.val j d' p h
  · obtain ⟨z, h3⟩ := back j o p h
    rw [sg j z]
    exact rel.own j o p h3
  · obtain ⟨z, a'⟩ := back j o p a
    obtain ⟨z', b'⟩ := back k o' p' b
    rw [sg j z] at c
    rw [sg k z'] at f
    exact rel.sep j k o p o' p' l a' b' c f
  · by_cases z : i = j
    · subst z
      rw [hs] at h; cases h
      cases hp
    · rw [List.getElem?_set_ne z, List.getElem?_set_ne z]
      exact ⟨h, rfl⟩
  · by_cases z : i = j
    · subst z
      rw [hs] at h; cases h
      cases hp
    · rw [List.getElem?_set_ne z, List.getElem?_set_ne z]
      exact ⟨.inl ⟨o, h⟩, rfl⟩
theorem okN (i : Nat) : TgOk [i] (gN i) := ⟨fun d ρ ρ' h => by
  simp only [gN] at h
  cases q : ρ[i]? with
  | none => simp only [q] at h; cases h
  | some s =>
    simp only [q] at h
    split at h
    · cases h
    · cases h
      exact ⟨by rw [List.length_set], fun j hj => List.getElem?_set_ne fun z => hj (by simp [z])⟩⟩
theorem oksN : TgsOk [] [] := ⟨fun ds ρ ρ' h => by
  cases ds with
  | nil => cases h; exact ⟨rfl, fun _ _ => rfl⟩
  | cons d ds => cases h⟩
theorem oksC {sl sl' : List Nat} {t : STg} {ts : List STg} (h1 : TgOk sl t) (h2 : TgsOk sl' ts) : TgsOk (sl ++ sl') (t :: ts) := ⟨fun ds ρ ρ' h => by
  cases ds with
  | nil => cases h
  | cons d ds =>
    simp only [gsT] at h
    cases q : t d ρ with
    | none => simp only [q, Option.bind_none] at h; cases h
    | some ρ1 =>
      simp only [q, Option.bind_some] at h
      obtain ⟨a1, a2⟩ := h1.ok d ρ ρ1 q
      obtain ⟨b1, b2⟩ := h2.ok ds ρ1 ρ' h
      exact ⟨b1.trans a1, fun j hj => by
        rw [List.mem_append, not_or] at hj
        rw [b2 j hj.2, a2 j hj.1]⟩⟩
theorem okT {sl : List Nat} {ts : List STg} (h : TgsOk sl ts) : TgOk sl (gT ts) := ⟨fun d ρ ρ' e => by
  cases d with
  | tup ds => exact h.ok ds ρ ρ' e
  | _ => cases e⟩
theorem dg_name (i : Nat) {x : Str} (hN : X.N.Nodup) (hi : X.N[i]? = some x := by rfl) (hx : Loc X.env.scope x := by first | exact Or.inl rfl | exact Or.inr rfl)
    (hf : X.fn x = true ∨ X.env.scope.names.lookup x = some .local := by first | exact .inl rfl | exact .inr rfl | assumption) : DG X (.Name x pos) [i] (gN i) := by
  refine ⟨PG.imp (pg_name hN hi hx hf) fun v σ H Q w => ?_, ⟨fun d ρ ρ' h => ?_⟩⟩
  · obtain ⟨ρ, Hb, d, rel, r, w⟩ := w
    simp only [gN] at w
    cases q : ρ[i]? with
    | none => simp only [q] at w
    | some s =>
      simp only [q] at w
      by_cases hp : s.pinned = true
      · simp only [if_pos hp] at w
      · simp only [if_neg hp] at w
        obtain ⟨st, pn⟩ := set_val rel q (by simpa using hp) r
        exact w _ st pn (by rw [List.length_set]) fun j hj => List.getElem?_set_ne fun z => hj (by simp [z])
  · simp only [gN] at h
    cases q : ρ[i]? with
    | none => simp only [q] at h; cases h
    | some s =>
      simp only [q] at h
      split at h
      · cases h
      · cases h
        exact ⟨by rw [List.length_set], fun j hj => List.getElem?_set_ne fun z => hj (by simp [z])⟩
theorem dgs_nil : DGs X [] [] [] := by
  refine ⟨PGs.imp pgs_nil fun vs σ H Q w => ?_, ⟨fun ds ρ ρ' h => ?_⟩, rfl⟩
  · obtain ⟨ρ, Hb, ds, rel, r, w⟩ := w
    cases ds with
    | nil =>
      exact ⟨r, w σ (.refl rel) .refl rfl fun _ _ => rfl⟩
    | cons d ds => exact w.elim
  · cases ds with
    | nil => cases h; exact ⟨rfl, fun _ _ => rfl⟩
    | cons d ds => cases h
theorem dgs_cons {sl sl' : List Nat} {t : STg} {ts : List STg} (h1 : DG X e sl t) (h2 : DGs X es sl' ts)
    (hs : (assignEach (e :: es) X.env).map (·.2) = assign e X.env :: (assignEach es X.env).map (·.2) := by rfl) : DGs X (e :: es) (sl ++ sl') (t :: ts) := by
  refine ⟨PGs.imp (pgs_cons h1.pg h2.pg hs) fun vs σ H Q w => ?_, ⟨fun ds ρ ρ' h => ?_⟩, by simp [h2.len]⟩
  · obtain ⟨ρ, Hb, ds, rel, r, w⟩ := w
    cases ds with
    | nil => exact w.elim
    | cons d ds =>
      obtain ⟨v, vr, rfl, r1, r2⟩ := r
      simp only [gsT] at w
      refine ⟨v, vr, rfl, ρ, Hb, d, rel, r1, ?_⟩
      cases q : t d ρ with
      | none => simp only [q, Option.bind_none] at w
      | some ρ1 =>
        simp only [q, Option.bind_some] at w
        intro σ1 s1 p1 l1 o1
        refine ⟨ρ1, Hb, ds, s1.rel, r2, ?_⟩
        cases q2 : gsT ts ds ρ1 with
        | none => simp only [q2] at w
        | some ρ2 =>
          simp only [q2] at w
          intro σ2 s2 p2 l2 o2
          exact w σ2 (s1.trans s2) (p1.trans p2) (l2.trans l1) fun j hj => by
            rw [List.mem_append, not_or] at hj
            rw [o2 j hj.2, o1 j hj.1]
  · cases ds with
    | nil => cases h
    | cons d ds =>
      simp only [gsT] at h
      cases q : t d ρ with
      | none => simp only [q, Option.bind_none] at h; cases h
      | some ρ1 =>
        simp only [q, Option.bind_some] at h
        obtain ⟨a1, a2⟩ := h1.ok.ok d ρ ρ1 q
        obtain ⟨b1, b2⟩ := h2.ok.ok ds ρ1 ρ' h
        exact ⟨b1.trans a1, fun j hj => by
          rw [List.mem_append, not_or] at hj
          rw [b2 j hj.2, a2 j hj.1]⟩
theorem gsT_len : ∀ {ts : List STg} {ds : List D} {ρ ρ' : Rho}, gsT ts ds ρ = some ρ' → ds.length = ts.length
  | [], [], _, _, _ => rfl
  | [], _ :: _, _, _, h => by cases h
  | _ :: _, [], _, _, h => by cases h
  | t :: ts, d :: ds, ρ, ρ', h => by
    simp only [gsT] at h
    cases q : t d ρ with
    | none => simp only [q, Option.bind_none] at h; cases h
    | some ρ1 =>
      simp only [q, Option.bind_some] at h
      simp [gsT_len h]
theorem dg_tup {sl : List Nat} {ts : List STg} {k : Nat} (hc : X.calm = true) (h : DGs X es sl ts) (hn : (assignEach es X.env).length = ts.length := by rfl) (hst : (assignEach es X.env).findIdx? (·.1) = none := by rfl) : DG X (.Tuple es k pos) sl (gT ts) := by
  refine ⟨PG.imp (pg_tup hc h.pg hn hst) fun v σ H Q w => ?_, ⟨fun d ρ ρ' e => ?_⟩⟩
  · obtain ⟨ρ, Hb, d, rel, r, w⟩ := w
    cases d with
    | tup ds =>
      simp only [gT] at w
      obtain ⟨a, xs, rfl, h1, h2⟩ := r
      refine ⟨a, xs, rfl, Evl.ex_t rel.ex h1, ?_, ρ, Hb, ds, rel, h2, w⟩
      cases q : gsT ts ds ρ with
      | none => simp only [q] at w
      | some ρ1 => rw [← h2.len]; exact gsT_len q
    | _ => exact absurd w (by simp [gT])
  · cases d with
    | tup ds => exact h.ok.ok ds ρ ρ' e
    | _ => cases e

/-! ## Comprehensions -/
def wipeR (ρ : Rho) : List Nat → Rho
  | [] => ρ
  | v :: vs => (wipeR ρ vs).set v .non
theorem wipeR_len (ρ : Rho) : ∀ vs : List Nat, (wipeR ρ vs).length = ρ.length
  | [] => rfl
  | v :: vs => by unfold wipeR; rw [List.length_set, wipeR_len ρ vs]
theorem wipeR_out {ρ : Rho} {j : Nat} : ∀ {vs : List Nat}, j ∉ vs → (wipeR ρ vs)[j]? = ρ[j]?
  | [], _ => rfl
  | v :: vs, h => by
    unfold wipeR
    rw [List.getElem?_set_ne (fun z => h (by simp [z]))]
    exact wipeR_out fun z => h (by simp [z])
theorem wipeR_in {ρ : Rho} {j : Nat} : ∀ {vs : List Nat}, j ∈ vs → (wipeR ρ vs)[j]? = if j < ρ.length then some .non else none
  | v :: vs, h => by
    unfold wipeR
    by_cases z : v = j
    · subst z
      by_cases hl : v < ρ.length
      · rw [if_pos hl, List.getElem?_set_self (by rw [wipeR_len]; exact hl)]
      · rw [if_neg hl, List.getElem?_eq_none (by rw [List.length_set, wipeR_len]; omega)]
    · rw [List.getElem?_set_ne z]
      exact wipeR_in ((List.mem_cons.mp h).resolve_left fun q => z q.symm)
theorem wipe_out' {σ : L2.St} {j : Nat} : ∀ {vs : List Nat}, j ∉ vs → (wipe σ vs)[j]? = σ[j]?
  | [], _ => rfl
  | v :: vs, h => by
    unfold wipe
    rw [List.getElem?_set_ne (fun z => h (by simp [z]))]
    exact wipe_out' fun z => h (by simp [z])
theorem wipe_in {σ : L2.St} {j : Nat} : ∀ {vs : List Nat}, j ∈ vs → (wipe σ vs)[j]? = if j < σ.length then some none else none
  | v :: vs, h => by
    unfold wipe
    by_cases z : v = j
    · subst z
      by_cases hl : v < σ.length
      · rw [if_pos hl, List.getElem?_set_self (by rw [wipe_length]; exact hl)]
      · rw [if_neg hl, List.getElem?_eq_none (by rw [List.length_set, wipe_length]; omega)]
    · rw [List.getElem?_set_ne z]
      exact wipe_in ((List.mem_cons.mp h).resolve_left fun q => z q.symm)
theorem wipe_eq {σ σ' : L2.St} {vs : List Nat} (hl : σ'.length = σ.length) (h : ∀ j, j ∉ vs → σ'[j]? = σ[j]?) : wipe σ' vs = wipe σ vs := by
  refine List.ext_getElem? fun j => ?_
  by_cases hj : j ∈ vs
  · rw [wipe_in hj, wipe_in hj, hl]
  · rw [wipe_out' hj, wipe_out' hj, h j hj]
theorem wipe_wipe {σ : L2.St} {vs : List Nat} : wipe (wipe σ vs) vs = wipe σ vs := wipe_eq (wipe_length σ vs) fun j hj => wipe_out' hj
/-- the slots of a block's own names forgotten -/
theorem wipe_rel (rel : Rel K ρ σ H Hb) (vs : List Nat) : Rel K (wipeR ρ vs) (wipe σ vs) H Hb := by
  have nin : ∀ (j : Nat) s, (wipeR ρ vs)[j]? = some s → s ≠ .non → j ∉ vs ∧ ρ[j]? = some s := fun j s h ne => by
    by_cases hj : j ∈ vs
    · rw [wipeR_in hj] at h
      split at h
      · cases h; exact absurd rfl ne
      · cases h
    · rw [wipeR_out hj] at h; exact ⟨hj, h⟩
  refine ⟨rel.ex, by rw [wipeR_len, wipe_length]; exact rel.len, fun j d p h => ?_, fun j o p h => ?_, fun j k o p o' p' l a b c f => ?_, rel.nt, rel.tb⟩
  · obtain ⟨hj, h'⟩ := nin j _ h (by simp)
    rw [wipe_out' hj]
    exact rel.val j d p h'
  · obtain ⟨hj, h'⟩ := nin j _ h (by simp)
    rw [wipe_out' hj]
    exact rel.own j o p h'
  · obtain ⟨hj, a'⟩ := nin j _ a (by simp)
    obtain ⟨hk, b'⟩ := nin k _ b (by simp)
    rw [wipe_out' hj] at c
    rw [wipe_out' hk] at f
    exact rel.sep j k o p o' p' l a' b' c f
theorem wipe_own {vs : List Nat} {a : Addr} (h : Own (wipeR ρ vs) (wipe σ vs) a) : Own ρ σ a := by
  obtain ⟨j, o, p, h1, h2⟩ := h
  by_cases hj : j ∈ vs
  · rw [wipeR_in hj] at h1
    split at h1
    · cases h1
    · cases h1
  · rw [wipeR_out hj] at h1
    rw [wipe_out' hj] at h2
    exact ⟨j, o, p, h1, h2⟩
theorem wipe_ownF {vs : List Nat} {p : Bool} {a : Addr} (h : OwnF (wipeR ρ vs) (wipe σ vs) p a) : OwnF ρ σ p a := by
  obtain ⟨j, o, h1, h2⟩ := h
  by_cases hj : j ∈ vs
  · rw [wipeR_in hj] at h1
    split at h1
    · cases h1
    · cases h1
  · rw [wipeR_out hj] at h1
    rw [wipe_out' hj] at h2
    exact ⟨j, o, h1, h2⟩
theorem wipe_step (rel : Rel K ρ σ H Hb) (vs : List Nat) : Step K ρ σ H Hb (wipeR ρ vs) (wipe σ vs) H Hb := ⟨wipe_rel rel vs, Evl.Ex.refl _, fun _ _ h _ _ => h, fun _ _ h _ => h, fun _ _ z => .inl (wipe_ownF z), fun _ h => h⟩
/-- what a block leaves, its own slots as they were around it -/
def unwipe (ρ ρ' : Rho) (vs : List Nat) : Rho := (List.range ρ.length).map fun j => if j ∈ vs then ρ.getD j .non else ρ'.getD j .non
theorem unwipe_get {ρ ρ' : Rho} {vs : List Nat} (hl : ρ'.length = ρ.length) (j : Nat) : (unwipe ρ ρ' vs)[j]? = if j ∈ vs then ρ[j]? else ρ'[j]? := by
  unfold unwipe
  rw [List.getElem?_map]
  by_cases h : j < ρ.length
  · rw [List.getElem?_range h, Option.map_some]
    by_cases hj : j ∈ vs
    · rw [if_pos hj, if_pos hj, List.getD_eq_getElem?_getD, List.getElem?_eq_getElem h, Option.getD_some]
    · rw [if_neg hj, if_neg hj, List.getD_eq_getElem?_getD, List.getElem?_eq_getElem (by rw [hl]; exact h), Option.getD_some]
  · rw [List.getElem?_eq_none (by simpa using h)]
    by_cases hj : j ∈ vs
    · rw [if_pos hj, List.getElem?_eq_none (by omega)]; rfl
    · rw [if_neg hj, List.getElem?_eq_none (by omega)]; rfl
theorem unwipe_ok {vs : List Nat} (rel : Rel K ρ σ H Hb) (s : Step K (wipeR ρ vs) (wipe σ vs) H Hb ρ' (wipe σ vs) H' Hb') (k : Keep (wipeR ρ vs) ρ') : Step K ρ σ H Hb (unwipe ρ ρ' vs) σ H' Hb' ∧ Keep ρ (unwipe ρ ρ' vs) := by
  have hl : ρ'.length = ρ.length := by rw [k.len, wipeR_len]
  have get := unwipe_get (vs := vs) hl
  -- an owner inside the block's own names is not touched
  have inn : ∀ (j : Nat) o p l, j ∈ vs → ρ[j]? = some (.own o p) → σ[j]? = some (some (.ref l)) → ¬ Own (wipeR ρ vs) (wipe σ vs) l := fun j o p l hj h1 h2 z => by
    obtain ⟨i, o', p', a, b⟩ := z
    by_cases hi : i ∈ vs
    · rw [wipeR_in hi] at a
      split at a
      · cases a
      · cases a
    · rw [wipeR_out hi] at a
      rw [wipe_out' hi] at b
      have := rel.sep j i o p o' p' l h1 a h2 b
      subst this
      exact hi hj
  have osub : ∀ p a, OwnF (unwipe ρ ρ' vs) σ p a → OwnF ρ σ p a := fun p a ⟨j, o, h1, h2⟩ => by
    rw [get] at h1
    by_cases hj : j ∈ vs
    · rw [if_pos hj] at h1; exact ⟨j, o, h1, h2⟩
    · rw [if_neg hj] at h1
      obtain ⟨o', h3⟩ := k.back h1
      rw [wipeR_out hj] at h3
      exact ⟨j, o', h3, h2⟩
  have nown : ∀ a, ¬ Own ρ σ a → ¬ Own (wipeR ρ vs) (wipe σ vs) a := fun a n z => n (wipe_own z)
  refine ⟨⟨⟨s.rel.ex, ?_, fun j d p h => ?_, fun j o p h => ?_, fun j i o p o' p' l a b c f => ?_, s.rel.nt, s.rel.tb⟩, s.ext, fun a o h n => s.kp a o h (nown a n), fun a h h' n => s.nb a h h' (nown a n), fun p a z => .inl (osub p a z), s.al⟩, ⟨?_, fun j h => ?_, fun j d p h => ?_, fun j o p h => ?_⟩⟩
  · unfold unwipe; rw [List.length_map, List.length_range]; exact rel.len
  · rw [get] at h
    by_cases hj : j ∈ vs
    · rw [if_pos hj] at h
      obtain ⟨v, a, b⟩ := rel.val j d p h
      exact ⟨v, a, Rep.mono s.ext _ _ b⟩
    · rw [if_neg hj] at h
      obtain ⟨v, a, b⟩ := s.rel.val j d p h
      rw [wipe_out' hj] at a
      exact ⟨v, a, b⟩
  · rw [get] at h
    by_cases hj : j ∈ vs
    · rw [if_pos hj] at h
      obtain ⟨l, a, b, c⟩ := rel.own j o p h
      have n := inn j o p l hj h a
      have hs := b.some
      refine ⟨l, a, b.mono ?_ s.ext, s.nb l hs c n⟩
      cases q : H l with
      | none => exact absurd q hs
      | some u => exact s.kp l u q n (b.ntb q)
    · rw [if_neg hj] at h
      obtain ⟨l, a, b, c⟩ := s.rel.own j o p h
      rw [wipe_out' hj] at a
      exact ⟨l, a, b, c⟩
  · have up : ∀ (j : Nat) o p, (unwipe ρ ρ' vs)[j]? = some (.own o p) → ∃ o', ρ[j]? = some (.own o' p) := fun j o p h => by
      rw [get] at h
      by_cases hj : j ∈ vs
      · rw [if_pos hj] at h; exact ⟨o, h⟩
      · rw [if_neg hj] at h
        obtain ⟨o', h3⟩ := k.back h
        rw [wipeR_out hj] at h3
        exact ⟨o', h3⟩
    obtain ⟨o1, a'⟩ := up j o p a
    obtain ⟨o2, b'⟩ := up i o' p' b
    exact rel.sep j i o1 p o2 p' l a' b' c f
  · unfold unwipe; rw [List.length_map, List.length_range]
  · rw [get]
    by_cases hj : j ∈ vs
    · rw [if_pos hj]; exact h
    · rw [if_neg hj]; exact k.non j (by rw [wipeR_out hj]; exact h)
  · rw [get]
    by_cases hj : j ∈ vs
    · rw [if_pos hj]; exact h
    · rw [if_neg hj]; exact k.val j d p (by rw [wipeR_out hj]; exact h)
  · rw [get]
    by_cases hj : j ∈ vs
    · rw [if_pos hj]; exact .inl ⟨o, h⟩
    · rw [if_neg hj]; exact k.own j o p (by rw [wipeR_out hj]; exact h)
/-- an object that nobody knows of changes -/
theorem Step.side {ρ0 : Rho} {σ0 : L2.St} {H0 Hb0 : Hp} {Dl : Addr} {u : HO} (s : Step K ρ0 σ0 H0 Hb0 ρ σ H Hb) (h0 : H0 Dl = none) (hb : Hb Dl = none) (n : ¬ Own ρ σ Dl) (hz : H Dl = none ∨ ∃ xs, H Dl = some (.lst xs)) : Step K ρ0 σ0 H0 Hb0 ρ σ (upd H Dl u) Hb where
  rel := ⟨fun a o q => by rw [upd_ne (fun z => by rw [z, hb] at q; cases q)]; exact s.rel.ex a o q, s.rel.len, s.rel.val, fun i o p h => by
    obtain ⟨l, a, b, c⟩ := s.rel.own i o p h
    exact ⟨l, a, b.mono (upd_ne fun z => n ⟨i, o, p, h, z ▸ a⟩) (Evl.Ex.refl _), c⟩, s.rel.sep, s.rel.nt, tabs_upd s.rel.tb hz⟩
  ext := s.ext
  kp := fun a o h m k => by rw [upd_ne (fun z => by rw [z, h0] at h; cases h)]; exact s.kp a o h m k
  nb := s.nb
  ow := s.ow
  al := fun a h => by
    by_cases z : a = Dl
    · rw [z]; exact h0
    · rw [upd_ne z] at h; exact s.al a h
end
end Sa

namespace Sa
open PySem L2 PySem.Spec PyProof.Rows
open Evl (Ex)

def compGo (t : STg) (c e : SE) (vs : List Nat) : List D → Rho → List D → Rs (List D)
  | [], ρ, acc => .ok acc ρ
  | d :: ds, ρ, acc => Rs.opt (t d ρ) fun ρ2 => (c ρ2).bind fun b ρ3 => match b with
    | .val (.bl true) => (e ρ3).bind fun r ρ4 => Rs.opt (frz r ρ4) fun p => if szOk acc.length = true then compGo t c e vs ds (wipeR p.2 vs) (acc ++ [p.1]) else .bad
    | .val (.bl false) => compGo t c e vs ds (wipeR ρ3 vs) acc
    | _ => .bad
def sComp (it : SI) (t : STg) (c e : SE) (vs : List Nat) : SE := fun ρ => (it ρ).bind fun ds ρ1 => (compGo t c e vs ds (wipeR ρ1 vs) []).bind fun acc ρ2 => .ok (.new (.lst acc)) (unwipe ρ1 ρ2 vs)

section
variable {X : Cx} {K : Fg} {σ : L2.St} {H : Hp} {Q : VK} {it : SI} {t : STg} {c e : SE} {vs sl : List Nat}
/-- between two turns: what is left to do gives the fixed end; where the list so far stands -/
structure CInv (K : Fg) (t : STg) (c e : SE) (vs : List Nat) (ds : List D) (accF : List D) (ρF : Rho) (Dl : Addr) (ρw : Rho) (σw : L2.St) (H1 Hb1 : Hp) (i : Nat) (Hc : Hp) : Prop where
  ex : ∃ (ρc : Rho) (Hbc : Hp) (acc : List D) (xs : List V), compGo t c e vs (ds.drop i) ρc acc = .ok accF ρF ∧ Step K ρw σw H1 Hb1 ρc σw Hc Hbc ∧ Keep ρw ρc ∧
    Hc Dl = some (.lst xs) ∧ RepL K Hbc acc xs ∧ Hbc Dl = none ∧ ¬ Own ρc σw Dl
theorem keep_wipe {ρw ρ2 : Rho} (hl : ρ2.length = ρw.length) (hw : ∀ j, j ∈ vs → ρw[j]? = if j < ρw.length then some .non else none)
    (non : ∀ (j : Nat), j ∉ vs → ρw[j]? = some .non → ρ2[j]? = some .non) (val : ∀ (j : Nat) d p, j ∉ vs → ρw[j]? = some (.val d p) → ρ2[j]? = some (.val d p))
    (own : ∀ (j : Nat) o p, j ∉ vs → ρw[j]? = some (.own o p) → (∃ o', ρ2[j]? = some (.own o' p)) ∨ ∃ d, ρ2[j]? = some (.val d p)) : Keep ρw (wipeR ρ2 vs) := by
  refine ⟨by rw [wipeR_len, hl], fun j h => ?_, fun j d p h => ?_, fun j o p h => ?_⟩
  · by_cases hj : j ∈ vs
    · rw [wipeR_in hj, hl, ← hw j hj]; exact h
    · rw [wipeR_out hj]; exact non j hj h
  · by_cases hj : j ∈ vs
    · rw [hw j hj] at h
      split at h <;> cases h
    · rw [wipeR_out hj]; exact val j d p hj h
  · by_cases hj : j ∈ vs
    · rw [hw j hj] at h
      split at h <;> cases h
    · rw [wipeR_out hj]; exact own j o p hj h
/-- a turn: the target is stored, the rest keeps, then the block's names are forgotten -/
theorem keep_turn {ρw ρc ρ2 ρ3 : Rho} (hw : ∀ j, j ∈ vs → ρw[j]? = if j < ρw.length then some .non else none) (k0 : Keep ρw ρc) (l2 : ρ2.length = ρc.length) (o2 : ∀ j, j ∉ vs → ρ2[j]? = ρc[j]?) (k3 : Keep ρ2 ρ3) : Keep ρw (wipeR ρ3 vs) := by
  refine keep_wipe (by rw [k3.len, l2, k0.len]) hw (fun j hj h => ?_) (fun j d p hj h => ?_) fun j o p hj h => ?_
  · exact k3.non j (by rw [o2 j hj]; exact k0.non j h)
  · exact k3.val j d p (by rw [o2 j hj]; exact k0.val j d p h)
  · rcases k0.own j o p h with ⟨o', h1⟩ | ⟨d, h1⟩
    · exact k3.own j o' p (by rw [o2 j hj]; exact h1)
    · exact .inr ⟨d, k3.val j d p (by rw [o2 j hj]; exact h1)⟩
theorem tE_comp (hsl : ∀ j ∈ sl, j ∈ vs) (ok : TgOk sl t) (w : tE K (sComp it t c e vs) σ H Q) : tLc (tI K it) (tG K sl t) (tT K c) (tE K e) vs σ H Q := by
  obtain ⟨ρ, Hb, rel, w⟩ := w
  refine ⟨ρ, Hb, rel, ?_⟩
  simp only [sComp] at w
  cases e1 : it ρ with
  | bad => simp only [e1, Rs.bind_bad] at w; exact w.elim
  | ok ds ρ1 =>
  simp only [e1, Rs.bind_ok] at w
  intro J H1 Hb1 s1 k1 wk Dl hD
  cases e2 : compGo t c e vs ds (wipeR ρ1 vs) [] with
  | bad => simp only [e2, Rs.bind_bad] at w; exact w.elim
  | ok accF ρF =>
  simp only [e2, Rs.bind_ok] at w
  have hb1D : Hb1 Dl = none := Evl.fresh_back s1.rel.ex hD
  have hw : ∀ j, j ∈ vs → (wipeR ρ1 vs)[j]? = if j < (wipeR ρ1 vs).length then some .non else none := fun j hj => by rw [wipeR_in hj, wipeR_len]
  have relw := wipe_rel s1.rel vs
  refine ⟨fun i m Hc => m = ds.length - i ∧ i ≤ ds.length ∧ CInv K t c e vs ds accF ρF Dl (wipeR ρ1 vs) (wipe σ vs) H1 Hb1 i Hc, ⟨_, rfl, Nat.zero_le _, ⟨wipeR ρ1 vs, Hb1, [], [], e2, (Step.refl relw).side hD hb1D ?_ (.inl hD), .refl _, upd_same, .nil, hb1D, ?_⟩⟩, fun i m Hc hW => ?_⟩
  · exact fun z => (relw.own_some z).1 hD
  · exact fun z => (relw.own_some z).1 hD
  obtain ⟨rfl, hi, ρc, Hbc, acc, xs, eg, st, kc, hDc, hacc, hbD, nown⟩ := hW
  by_cases hlast : i = ds.length
  · subst hlast
    left
    rw [List.drop_length] at eg
    cases eg
    refine ⟨wk.stop Hc Hbc st.ext st.rel.ex, ?_⟩
    obtain ⟨su, ku⟩ := unwipe_ok s1.rel st kc
    refine w (.ref Dl) Hc Hbc (s1.trans su) (k1.trans ku) ⟨Dl, rfl, ⟨xs, hDc, hacc⟩, hbD, fun z => ?_⟩ fun l q => ?_
    · exact (s1.rel.own_some (ku.own_sub z)).1 hD
    · cases q
      exact s1.al Dl hD
  right
  have hi' : i < ds.length := by omega
  have hd : ds[i]? = some ds[i] := List.getElem?_eq_getElem hi'
  have edrop : ds.drop i = ds[i] :: ds.drop (i + 1) := by rw [List.drop_eq_getElem_cons hi']
  obtain ⟨hgo, hyld⟩ := wk.go i ds[i] Hc Hbc st.ext st.rel.ex hd
  refine ⟨hgo, fun H' => CInv K t c e vs ds accF ρF Dl (wipeR ρ1 vs) (wipe σ vs) H1 Hb1 (i + 1) H', fun H' hN => ⟨ds.length - (i + 1), by omega, rfl, by omega, hN⟩, fun x H' hy => ?_⟩
  obtain ⟨Hbc', x1, x2, x3, nw, hrx⟩ := hyld x H' hy
  have sg := st.rel.grow x1 x2 x3 nw
  replace hrx := Rep.cl _ _ hrx
  rw [edrop] at eg
  simp only [compGo] at eg
  refine ⟨ρc, cl Hbc', ds[i], sg.rel, hrx, ?_⟩
  cases e3 : t ds[i] ρc with
  | none => simp only [e3, Rs.opt_none] at eg; cases eg
  | some ρ2 =>
  simp only [e3, Rs.opt_some] at eg
  intro σ2 s2 p2 l2 o2
  obtain ⟨lt, ot⟩ := ok.ok _ _ _ e3
  have ot' : ∀ j, j ∉ vs → ρ2[j]? = ρc[j]? := fun j hj => ot j fun z => hj (hsl j z)
  have ew : wipe σ2 vs = wipe σ vs := by
    rw [wipe_eq l2 fun j hj => o2 j fun z => hj (hsl j z)]
    exact wipe_wipe
  refine ⟨ew, ρ2, cl Hbc', s2.rel, ?_⟩
  have S2 := (st.trans sg).trans s2
  have nown2 : ¬ Own ρ2 σ2 Dl := fun z => by
    rcases s2.owA Dl z with z | z
    · exact nown z
    · rw [x1 Dl _ hDc] at z; cases z
  have hD' : H' Dl = some (.lst xs) := x1 Dl _ hDc
  have hbD' : cl Hbc' Dl = none := cl_none ((nw Dl (by rw [hDc]; simp)).trans hbD)
  have nL : ∀ ps, (HO.lst xs) ≠ .tbl ps := fun ps z => by cases z
  replace x2 := ex_cl st.rel.nt x2
  show WpT K ρ2 σ2 H' (cl Hbc') (c ρ2) _
  cases e4 : c ρ2 with
  | bad => simp only [e4, Rs.bind_bad] at eg; cases eg
  | ok b ρ3 =>
  simp only [e4, Rs.bind_ok] at eg
  match b, eg with
  | .val (.bl false), eg =>
    intro H3 Hb3 s3 k3
    refine iteF ⟨wipeR ρ3 vs, Hb3, acc, xs, eg, ?_, keep_turn hw kc lt ot' k3, s3.kp Dl _ hD' nown2 nL, RepL.mono (x2.trans s3.ext) _ _ hacc, s3.nb Dl (by rw [hD']; simp) hbD' nown2, fun z => ?_⟩
    · have := (S2.trans s3).trans (wipe_step s3.rel vs)
      rw [ew] at this
      exact this
    · rw [← ew] at z
      exact nown2 (k3.own_sub (wipe_own z))
  | .val (.bl true), eg =>
    intro H3 Hb3 s3 k3
    refine iteT ⟨ρ3, Hb3, s3.rel, ?_⟩
    have hD3 : H3 Dl = some (.lst xs) := s3.kp Dl _ hD' nown2 nL
    have hb3 : Hb3 Dl = none := s3.nb Dl (by rw [hD']; simp) hbD' nown2
    have nown3 : ¬ Own ρ3 σ2 Dl := fun z => nown2 (k3.own_sub z)
    cases e5 : e ρ3 with
    | bad => simp only [e5, Rs.bind_bad] at eg; cases eg
    | ok r ρ4 =>
    simp only [e5, Rs.bind_ok] at eg
    intro y H4 Hb4 s4 k4 r4 f4
    cases e6 : frz r ρ4 with
    | none => simp only [e6, Rs.opt_none] at eg; cases eg
    | some p =>
    obtain ⟨dd, ρ5⟩ := p
    simp only [e6, Rs.opt_some] at eg
    obtain ⟨Hb5, s5, k5, x5, rp, _, _⟩ := frz_ok s4 r4 f4 e6
    have hD4 : H4 Dl = some (.lst xs) := s5.kp Dl _ hD3 nown3 nL
    have hb5 : Hb5 Dl = none := s5.nb Dl (by rw [hD3]; simp) hb3 nown3
    have nown5 : ¬ Own ρ5 σ2 Dl := fun z => nown3 (k4.own_sub (k5.own_sub z))
    by_cases hz : szOk acc.length = true
    · simp only [if_pos hz] at eg
      refine ⟨xs, hD4, by rw [← hacc.len]; exact szOk_lt hz, ⟨wipeR ρ5 vs, Hb5, acc ++ [dd], xs ++ [y], eg, ?_, keep_turn hw kc lt ot' ((k3.trans k4).trans k5), upd_same, ?_, hb5, fun z => ?_⟩⟩
      · have S := ((S2.trans s3).trans s5).trans (wipe_step s5.rel vs)
        rw [ew] at S
        refine S.side hD hb5 (fun z => ?_) (.inr ⟨_, hD4⟩)
        rw [← ew] at z
        exact nown5 (wipe_own z)
      · exact (RepL.mono ((x2.trans s3.ext).trans s5.ext) _ _ hacc).app (.one rp)
      · rw [← ew] at z
        exact nown5 (wipe_own z)
    · simp only [if_neg hz] at eg
      cases eg
theorem PTs.imp {ifs : List Expr} {t u : TT} (h : PTs X ifs t) (k : ∀ σ H Q, u σ H Q → t σ H Q) : PTs X ifs u := ⟨fun pins s σ H Q I q => h.run pins s σ H Q I (k σ H Q q)⟩
theorem dt_nil : PTs X [] (tT X.K (sC (.bl true))) := PTs.imp pts_nil fun σ H Q w => by
  obtain ⟨ρ, Hb, rel, w⟩ := w
  exact w H Hb (.refl rel) (.refl ρ)
theorem dt_one {a : Expr} {f : SE} (h : DE X a f) : PTs X [a] (tT X.K f) := pts_one h.pt
theorem d_comp {elt tg iter : Expr} {ifs : List Expr} {scope : Scope} {pos : Pos} (own : List (Str × Nat)) (hc : X.calm = true) (hN : X.N.Nodup) (hi : DI X tg iter it) (ok : BlkOk X.N X.env.scope scope own)
    (hg : ∀ (s : Shared) (H : Hp) (C : Addr) (cl : List (Str × Addr)) (fp : List Addr), DG (X.blk s H scope (compEnvC scope cl C X.env) fp) tg sl t)
    (ht : ∀ (s : Shared) (H : Hp) (C : Addr) (cl : List (Str × Addr)) (fp : List Addr), PTs (X.blk s H scope (compEnvC scope cl C X.env) fp) ifs (tT X.K c))
    (he : ∀ (s : Shared) (H : Hp) (C : Addr) (cl : List (Str × Addr)) (fp : List Addr), DE (X.blk s H scope (compEnvC scope cl C X.env) fp) elt e)
    (okT : TgOk sl t) (hsl : ∀ j ∈ sl, j ∈ own.map (·.2) := by decide) (hs : ∀ x, foldedSetIterable iter X.env x = pure x := by intro _; rfl) : DE X (.ListComp elt [⟨tg, iter, ifs, 0⟩] scope pos) (sComp it t c e (own.map (·.2))) :=
  .of (PE.imp (pe_lc hc hN hi ok (fun s H C cl fp => (hg s H C cl fp).pg) ht (fun s H C cl fp => (he s H C cl fp).pe) hs) fun _ _ _ w => tE_comp hsl okT w)
end
end Sa

namespace Sa
open PySem L2 PySem.Spec PyProof.Rows
open Evl (Ex)

/-! ## Statements -/
inductive Out where
  | nx (ρ : Rho) | brk (ρ : Rho) | cnt (ρ : Rho) | ret (r : R) (ρ : Rho) | bad
abbrev SS := Rho → Out
def WpS (K : Fg) (ρ : Rho) (σ : L2.St) (H Hb : Hp) (m : Out) (D : Ends) : Prop := match m with
  | .nx ρ' => ∀ σ' H' Hb', Step K ρ σ H Hb ρ' σ' H' Hb' → Pin ρ σ ρ' σ' → D.nx σ' H'
  | .brk ρ' => ∀ σ' H' Hb', Step K ρ σ H Hb ρ' σ' H' Hb' → Pin ρ σ ρ' σ' → D.bk σ' H'
  | .cnt ρ' => ∀ σ' H' Hb', Step K ρ σ H Hb ρ' σ' H' Hb' → Pin ρ σ ρ' σ' → D.ct σ' H'
  | .ret r ρ' => ∀ v σ' H' Hb', Step K ρ σ H Hb ρ' σ' H' Hb' → Pin ρ σ ρ' σ' → ResAt K ρ' σ' H' Hb' r v → Fresh H r v → D.rt v H'
  | .bad => False
def tS (K : Fg) (f : SS) : TS := fun D σ H => ∃ ρ Hb, Rel K ρ σ H Hb ∧ WpS K ρ σ H Hb (f ρ) D
abbrev DS (X : Cx) (st : Stmt) (f : SS) : Prop := PS X st (tS X.K f)
abbrev DSs (X : Cx) (sts : List Stmt) (f : SS) : Prop := PSs X sts (tS X.K f)
def Out.seq (m : Out) (k : SS) : Out := match m with
  | .nx ρ => k ρ
  | m => m
theorem Out.seq_nx (ρ : Rho) (k : SS) : (Out.nx ρ).seq k = k ρ := rfl
theorem Out.seq_ret (r : R) (ρ : Rho) (k : SS) : (Out.ret r ρ).seq k = .ret r ρ := rfl
theorem Out.seq_brk (ρ : Rho) (k : SS) : (Out.brk ρ).seq k = .brk ρ := rfl
theorem Out.seq_cnt (ρ : Rho) (k : SS) : (Out.cnt ρ).seq k = .cnt ρ := rfl
theorem Out.seq_bad (k : SS) : (Out.bad).seq k = .bad := rfl
def sNil : SS := fun ρ => .nx ρ
def sCons (f g : SS) : SS := fun ρ => (f ρ).seq g
/-- behind an expression, a statement -/
def Rs.out {α : Type} (m : Rs α) (k : α → Rho → Out) : Out := match m with
  | .ok a ρ => k a ρ
  | .bad => .bad
theorem Rs.out_ok {α : Type} (a : α) (ρ : Rho) (k : α → Rho → Out) : (Rs.ok a ρ).out k = k a ρ := rfl
theorem Rs.out_bad {α : Type} (k : α → Rho → Out) : (Rs.bad : Rs α).out k = .bad := rfl
def oOpt {α : Type} (m : Option α) (k : α → Out) : Out := match m with
  | some a => k a
  | none => .bad
theorem oOpt_some {α : Type} (a : α) (k : α → Out) : oOpt (some a) k = k a := rfl
theorem oOpt_none {α : Type} (k : α → Out) : oOpt (none : Option α) k = .bad := rfl
def forGo (t : STg) (F : SS) : List D → Rho → Out
  | [], ρ => .nx ρ
  | d :: ds, ρ => oOpt (t d ρ) fun ρ2 => match F ρ2 with
    | .nx ρ3 => forGo t F ds ρ3
    | .cnt ρ3 => forGo t F ds ρ3
    | .brk ρ3 => .nx ρ3
    | .ret r ρ3 => .ret r ρ3
    | .bad => .bad
def sFor (it : SI) (t : STg) (F : SS) : SS := fun ρ => (it ρ).out fun ds ρ1 => forGo t F ds ρ1
def whileGo (c : SE) (F : SS) : Nat → Rho → Out
  | 0, _ => .bad
  | n + 1, ρ => (c ρ).out fun r ρ1 => match r with
    | .val (.bl true) => match F ρ1 with
      | .nx ρ2 => whileGo c F n ρ2
      | .cnt ρ2 => whileGo c F n ρ2
      | .brk ρ2 => .nx ρ2
      | .ret r ρ2 => .ret r ρ2
      | .bad => .bad
    | .val (.bl false) => .nx ρ1
    | _ => .bad
def sWhile (n : Nat) (c : SE) (F : SS) : SS := whileGo c F n
section
variable {X : Cx} {K : Fg} {ρ ρ1 ρ2 ρ' : Rho} {σ σ1 σ2 σ' : L2.St} {H H1 H' Hb Hb1 Hb' : Hp} {pos : Pos} {e : Expr} {st : Stmt} {sts : List Stmt} {f g : SE} {F G : SS} {D : Ends}
theorem WpS.after {m : Out} (w : WpS K ρ σ H Hb m D) (s : Step K ρ σ H Hb ρ1 σ1 H1 Hb1) (p : Pin ρ σ ρ1 σ1) : WpS K ρ1 σ1 H1 Hb1 m D := by
  cases m with
  | bad => exact w
  | nx ρ2 => exact fun σ2 H2 Hb2 s2 p2 => w σ2 H2 Hb2 (s.trans s2) (p.trans p2)
  | brk ρ2 => exact fun σ2 H2 Hb2 s2 p2 => w σ2 H2 Hb2 (s.trans s2) (p.trans p2)
  | cnt ρ2 => exact fun σ2 H2 Hb2 s2 p2 => w σ2 H2 Hb2 (s.trans s2) (p.trans p2)
  | ret r ρ2 => exact fun v σ2 H2 Hb2 s2 p2 r2 f2 => w v σ2 H2 Hb2 (s.trans s2) (p.trans p2) r2 (f2.back s)
theorem dss_nil : DSs X [] sNil := PSs.imp pss_nil fun D σ H w => by
  obtain ⟨ρ, Hb, rel, w⟩ := w
  exact w σ H Hb (.refl rel) .refl
theorem tS_cons (w : tS K (sCons F G) D σ H) : tSeq (tS K F) (tS K G) D σ H := by
  obtain ⟨ρ, Hb, rel, w⟩ := w
  refine ⟨ρ, Hb, rel, ?_⟩
  simp only [sCons] at w
  cases q : F ρ with
  | nx ρ1 =>
    rw [q, Out.seq_nx] at w
    exact fun σ1 H1 Hb1 s1 p1 => ⟨ρ1, Hb1, s1.rel, w.after s1 p1⟩
  | bad => rw [q, Out.seq_bad] at w; exact w
  | ret r ρ1 => rw [q, Out.seq_ret] at w; exact w
  | brk ρ1 => rw [q, Out.seq_brk] at w; exact w
  | cnt ρ1 => rw [q, Out.seq_cnt] at w; exact w
theorem dss_cons (h1 : DS X st F) (h2 : DSs X sts G) : DSs X (st :: sts) (sCons F G) := PSs.imp (pss_cons h1 h2) fun _ _ _ w => tS_cons w
theorem ds_pass : DS X (.Pass pos) sNil := PS.imp ps_pass fun D σ H w => by
  obtain ⟨ρ, Hb, rel, w⟩ := w
  exact w σ H Hb (.refl rel) .refl
theorem ds_break : DS X (.Break pos) (fun ρ => .brk ρ) := PS.imp ps_break fun D σ H w => by
  obtain ⟨ρ, Hb, rel, w⟩ := w
  exact w σ H Hb (.refl rel) .refl
theorem ds_cont : DS X (.Continue pos) (fun ρ => .cnt ρ) := PS.imp ps_continue fun D σ H w => by
  obtain ⟨ρ, Hb, rel, w⟩ := w
  exact w σ H Hb (.refl rel) .refl
/-- a statement that is not reached -/
theorem ds_never : DS X st (fun _ => .bad) := PS.imp ps_never fun D σ H w => by
  obtain ⟨ρ, Hb, rel, w⟩ := w
  exact w
/-- behind an expression -/
theorem tE_then {k : R → Rho → Out} {P : V → Hp → Prop} (w : tS K (fun ρ => (f ρ).out k) D σ H)
    (go : ∀ (ρ : Rho) (Hb : Hp) (r : R) (ρ1 : Rho) (v : V) (H1 Hb1 : Hp), WpS K ρ σ H Hb (k r ρ1) D → Step K ρ σ H Hb ρ1 σ H1 Hb1 → Keep ρ ρ1 → ResAt K ρ1 σ H1 Hb1 r v → Fresh H r v → P v H1) : tE K f σ H P := by
  obtain ⟨ρ, Hb, rel, w⟩ := w
  refine ⟨ρ, Hb, rel, ?_⟩
  cases q : f ρ with
  | bad => simp only [q, Rs.out_bad] at w; exact w.elim
  | ok r ρ1 =>
    simp only [q, Rs.out_ok] at w
    exact fun v H1 Hb1 s1 k1 r1 f1 => go ρ Hb r ρ1 v H1 Hb1 w s1 k1 r1 f1
def sExpr (f : SE) : SS := fun ρ => (f ρ).out fun _ ρ1 => .nx ρ1
def sRet (f : SE) : SS := fun ρ => (f ρ).out fun r ρ1 => .ret r ρ1
def sRetN : SS := fun ρ => .ret (.val .non) ρ
theorem ds_expr (h : DE X e f) (hs : swapsWith e none pos.line X.env = pure false := by rfl) : DS X (.Expr e pos) (sExpr f) :=
  PS.imp (ps_expr h.pe hs) fun _ _ _ w => tE_then w fun _ _ _ _ _ H1 Hb1 w s k _ _ => w _ H1 Hb1 s k.pin
theorem ds_ret (h : DE X e f) : DS X (.Return (some e) pos) (sRet f) :=
  PS.imp (ps_ret h.pe) fun _ _ _ w => tE_then w fun _ _ _ _ v H1 Hb1 w s k r fr => w v _ H1 Hb1 s k.pin r fr
theorem ds_retN : DS X (.Return none pos) sRetN := PS.imp ps_retN fun D σ H w => by
  obtain ⟨ρ, Hb, rel, w⟩ := w
  exact w .non σ H Hb (.refl rel) .refl rfl trivial
def sIfS (c : SE) (F G : SS) : SS := fun ρ => (c ρ).out fun r ρ1 => match r with
  | .val (.bl true) => F ρ1
  | .val (.bl false) => G ρ1
  | _ => .bad
theorem ds_if {c : Expr} {a b : List Stmt} (hc : DE X c f) (ha : DSs X a F) (hb : DSs X b G) : DS X (.If c a b pos) (sIfS f F G) := PS.imp (ps_if hc.pt ha hb) fun D σ H w => by
  obtain ⟨ρ, Hb, rel, w⟩ := w
  refine ⟨ρ, Hb, rel, ?_⟩
  simp only [sIfS] at w
  show WpT X.K ρ σ H Hb (f ρ) _
  cases q : f ρ with
  | bad => simp only [q, Rs.out_bad] at w; exact w.elim
  | ok r ρ1 =>
    simp only [q, Rs.out_ok] at w
    match r, w with
    | .val (.bl true), w => exact fun H1 Hb1 s1 k1 => iteT ⟨ρ1, Hb1, s1.rel, w.after s1 k1.pin⟩
    | .val (.bl false), w => exact fun H1 Hb1 s1 k1 => iteF ⟨ρ1, Hb1, s1.rel, w.after s1 k1.pin⟩

/-! ### stores -/
/-- what a result is as a slot (another name's object is frozen) -/
def mv (r : R) (ρ : Rho) : Option (Sl × Rho) := match r with
  | .val d => some (.val d false, ρ)
  | .new o => some (.own o false, ρ)
  | .own i => (frz (.own i) ρ).map fun p => (.val p.1 false, p.2)
/-- a value as a slot's content -/
def SlAt (K : Fg) (ρ : Rho) (σ : L2.St) (H0 H Hb : Hp) : Sl → V → Prop
  | .val d p, v => p = false ∧ Rep K Hb d v
  | .own o p, v => p = false ∧ ∃ l, v = .ref l ∧ ObAt K H Hb l o ∧ Hb l = none ∧ ¬ Own ρ σ l ∧ H0 l = none
  | .non, _ => False
def stSl (i : Nat) (s : Sl) (ρ : Rho) : Option Rho := match ρ[i]? with
  | some s0 => if s0.pinned = true then none else some (ρ.set i s)
  | none => none
theorem mv_ok {ρ0 : Rho} {σ0 : L2.St} {H0 Hb0 : Hp} {r : R} {v : V} {s : Sl} (st : Step K ρ0 σ0 H0 Hb0 ρ σ H Hb) (hr : ResAt K ρ σ H Hb r v) (hf : Fresh H0 r v) (e : mv r ρ = some (s, ρ')) :
    ∃ Hb', Step K ρ0 σ0 H0 Hb0 ρ' σ H Hb' ∧ Keep ρ ρ' ∧ Ex Hb Hb' ∧ SlAt K ρ' σ H0 H Hb' s v := by
  cases r with
  | val d => cases e; exact ⟨Hb, st, .refl _, Evl.Ex.refl _, rfl, hr⟩
  | new o =>
    cases e
    obtain ⟨l, rfl, a, b, c⟩ := hr
    exact ⟨Hb, st, .refl _, Evl.Ex.refl _, rfl, l, rfl, a, b, c, hf l rfl⟩
  | own i =>
    simp only [mv] at e
    cases q : frz (.own i) ρ with
    | none => rw [q] at e; cases e
    | some p =>
      obtain ⟨d, ρ2⟩ := p
      rw [q] at e; cases e
      obtain ⟨Hb', s', k', x', rp, _, _⟩ := frz_ok st hr hf q
      exact ⟨Hb', s', k', x', rfl, rp⟩
/-- the store -/
theorem stSl_ok {ρ0 : Rho} {σ0 : L2.St} {H0 Hb0 : Hp} {v : V} {s : Sl} {i : Nat} (st : Step K ρ0 σ0 H0 Hb0 ρ σ H Hb) (pn : Pin ρ0 σ0 ρ σ) (h : SlAt K ρ σ H0 H Hb s v) (e : stSl i s ρ = some ρ') :
    Step K ρ0 σ0 H0 Hb0 ρ' (σ.set i (some v)) H Hb ∧ Pin ρ0 σ0 ρ' (σ.set i (some v)) := by
  unfold stSl at e
  cases hs : ρ[i]? with
  | none => rw [hs] at e; cases e
  | some s0 =>
  rw [hs] at e
  by_cases hp0 : s0.pinned = true
  · simp only [if_pos hp0] at e; cases e
  simp only [if_neg hp0] at e
  cases e
  have hp : s0.pinned = false := by simpa using hp0
  cases s with
  | non => exact h.elim
  | val d p =>
    obtain ⟨rfl, h⟩ := h
    obtain ⟨a, b⟩ := set_val st.rel hs hp h
    exact ⟨st.trans a, pn.trans b⟩
  | own o p =>
    obtain ⟨rfl, l, rfl, hl, hbl, nown, hl0⟩ := h
    have rel := st.rel
    have hi : i < ρ.length := (List.getElem?_eq_some_iff.mp hs).1
    have hiσ : i < σ.length := by rw [← rel.len]; exact hi
    have sg : ∀ (j : Nat), j ≠ i → (σ.set i (some (.ref l)))[j]? = σ[j]? := fun j z => List.getElem?_set_ne (Ne.symm z)
    have cas : ∀ (j : Nat) o' p', (ρ.set i (.own o false))[j]? = some (.own o' p') → (j = i ∧ o' = o ∧ p' = false) ∨ (j ≠ i ∧ ρ[j]? = some (.own o' p')) := fun j o' p' h => by
      by_cases z : i = j
      · subst z; rw [List.getElem?_set_self hi] at h; cases h; exact .inl ⟨rfl, rfl, rfl⟩
      · rw [List.getElem?_set_ne z] at h; exact .inr ⟨fun y => z y.symm, h⟩
    refine ⟨⟨⟨rel.ex, by rw [List.length_set, List.length_set]; exact rel.len, fun j d p h => ?_, fun j o' p' h => ?_, fun j k o1 p1 o2 p2 l' a b c f => ?_, rel.nt, rel.tb⟩, st.ext, st.kp, st.nb, fun p a z => ?_, st.al⟩, pn.trans ⟨by rw [List.length_set], fun j d h => ?_, fun j o' h => ?_⟩⟩
    · by_cases z : i = j
      · subst z; rw [List.getElem?_set_self hi] at h; cases h
      · rw [List.getElem?_set_ne z] at h
        rw [List.getElem?_set_ne z]
        exact rel.val j d p h
    · rcases cas j o' p' h with ⟨rfl, rfl, rfl⟩ | ⟨z, h'⟩
      · exact ⟨l, List.getElem?_set_self hiσ, hl, hbl⟩
      · rw [sg j z]; exact rel.own j o' p' h'
    · rcases cas j o1 p1 a with ⟨rfl, rfl, rfl⟩ | ⟨z, a'⟩
      · rcases cas k o2 p2 b with ⟨rfl, _, _⟩ | ⟨z', b'⟩
        · rfl
        · rw [List.getElem?_set_self hiσ] at c
          cases c
          rw [sg k z'] at f
          exact absurd ⟨k, o2, p2, b', f⟩ nown
      · rcases cas k o2 p2 b with ⟨rfl, _, _⟩ | ⟨z', b'⟩
        · rw [List.getElem?_set_self hiσ] at f
          cases f
          rw [sg j z] at c
          exact absurd ⟨j, o1, p1, a', c⟩ nown
        · rw [sg j z] at c
          rw [sg k z'] at f
          exact rel.sep j k o1 p1 o2 p2 l' a' b' c f
    · obtain ⟨j, o', h1, h2⟩ := z
      rcases cas j o' p h1 with ⟨rfl, rfl, rfl⟩ | ⟨z, h'⟩
      · rw [List.getElem?_set_self hiσ] at h2
        cases h2
        exact .inr ⟨rfl, hl0⟩
      · rw [sg j z] at h2
        exact st.ow p a ⟨j, o', h', h2⟩
    · by_cases z : i = j
      · subst z; rw [hs] at h; cases h; cases hp
      · rw [List.getElem?_set_ne z, List.getElem?_set_ne z]; exact ⟨h, rfl⟩
    · by_cases z : i = j
      · subst z; rw [hs] at h; cases h; cases hp
      · rw [List.getElem?_set_ne z, List.getElem?_set_ne z]; exact ⟨.inl ⟨o', h⟩, rfl⟩
def sAsg (i : Nat) (f : SE) : SS := fun ρ => (f ρ).out fun r ρ1 => oOpt (mv r ρ1) fun p => oOpt (stSl i p.1 p.2) fun ρ3 => .nx ρ3
theorem tS_asg {i : Nat} (w : tS K (sAsg i f) D σ H) : tAsg (tE K f) (gName i) D σ H := tE_then w fun ρ Hb r ρ1 v H1 Hb1 w s k hr hf => by
  cases e1 : mv r ρ1 with
  | none => simp only [e1, oOpt_none] at w; exact w.elim
  | some p =>
  obtain ⟨sl, ρ2⟩ := p
  simp only [e1, oOpt_some] at w
  cases e2 : stSl i sl ρ2 with
  | none => simp only [e2, oOpt_none] at w; exact w.elim
  | some ρ3 =>
  simp only [e2, oOpt_some] at w
  obtain ⟨Hb2, s2, k2, x2, sa⟩ := mv_ok s hr hf e1
  obtain ⟨s3, p3⟩ := stSl_ok s2 (k.trans k2).pin sa e2
  exact w _ H1 Hb2 s3 p3
theorem ds_asg (i : Nat) {x : Str} {pos' : Pos} (hN : X.N.Nodup) (he : DE X e f) (hi : X.N[i]? = some x := by rfl) (hx : Loc X.env.scope x := by first | exact Or.inl rfl | exact Or.inr rfl)
    (hs : swapsWith e (some (.Name x pos')) pos.line X.env = pure false := by rfl) (hf : X.fn x = true ∨ X.env.scope.names.lookup x = some .local := by first | exact .inl rfl | exact .inr rfl | assumption) : DS X (.Assign [.Name x pos'] e pos) (sAsg i f) :=
  PS.imp (ps_set hN hi hx he.pe hs hf) fun _ _ _ w => tS_asg w
/-- a, b = e -/
def sAsgT (t : STg) (f : SE) : SS := fun ρ => (f ρ).out fun r ρ1 => oOpt (frz r ρ1) fun p => oOpt (t p.1 p.2) fun ρ3 => .nx ρ3
theorem tS_asgT {sl : List Nat} {t : STg} (w : tS K (sAsgT t f) D σ H) : tAsg (tE K f) (tG K sl t) D σ H := tE_then w fun ρ Hb r ρ1 v H1 Hb1 w s k hr hf => by
  cases e1 : frz r ρ1 with
  | none => simp only [e1, oOpt_none] at w; exact w.elim
  | some p =>
  obtain ⟨d, ρ2⟩ := p
  simp only [e1, oOpt_some] at w
  obtain ⟨Hb2, s2, k2, x2, rp, _, _⟩ := frz_ok s hr hf e1
  refine ⟨ρ2, Hb2, d, s2.rel, rp, ?_⟩
  cases e2 : t d ρ2 with
  | none => simp only [e2, oOpt_none] at w; exact w.elim
  | some ρ3 =>
  simp only [e2, oOpt_some] at w
  exact fun σ3 s3 p3 l3 o3 => w σ3 H1 Hb2 (s2.trans s3) ((k.trans k2).pin.trans p3)
theorem ds_asgT {tg : Expr} {sl : List Nat} {t : STg} (he : DE X e f) (hg : DG X tg sl t) (hs : swapsWithSole [tg] e pos.line X.env = pure false := by rfl) (hw : swappedStores [tg] e X.env = pure none := by rfl)
    (h1 : (assignEach [tg] X.env).map (·.2) = [assign tg X.env] := by rfl) : DS X (.Assign [tg] e pos) (sAsgT t f) := PS.imp (ps_asg he.pe hg.pg hs hw h1) fun _ _ _ w => tS_asgT w
/-- a, b = e, e', two local names -/
def mvS : R → Option Sl
  | .val d => some (.val d false)
  | .new o => some (.own o false)
  | .own _ => none
def sPar (i j : Nat) (f g : SE) : SS := fun ρ => (evs [f, g] ρ).out fun rs ρ1 => match rs with
  | [r, q] => oOpt (mvS r) fun s1 => oOpt (mvS q) fun s2 => oOpt (stSl i s1 ρ1) fun ρ3 => oOpt (stSl j s2 ρ3) fun ρ4 => .nx ρ4
  | _ => .bad
theorem mvS_ok {H0 : Hp} {r : R} {v : V} {s : Sl} (hr : ResAt K ρ σ H Hb r v) (hf : Fresh H0 r v) (e : mvS r = some s) : SlAt K ρ σ H0 H Hb s v := by
  cases r with
  | val d => cases e; exact ⟨rfl, hr⟩
  | new o =>
    cases e
    obtain ⟨l, rfl, a, b, c⟩ := hr
    exact ⟨rfl, l, rfl, a, b, c, hf l rfl⟩
  | own i => cases e
/-- a store keeps what stands apart from it -/
theorem stSl_apart {i : Nat} {s : Sl} {l : Addr} {v : V} (e : stSl i s ρ = some ρ') (n : ¬ Own ρ σ l) (hv : ∀ o p, s = .own o p → v ≠ .ref l) : ¬ Own ρ' (σ.set i (some v)) l := by
  unfold stSl at e
  cases hs : ρ[i]? with
  | none => rw [hs] at e; cases e
  | some s0 =>
  rw [hs] at e
  by_cases hp0 : s0.pinned = true
  · simp only [if_pos hp0] at e; cases e
  simp only [if_neg hp0] at e
  cases e
  have hi : i < ρ.length := (List.getElem?_eq_some_iff.mp hs).1
  rintro ⟨j, o, p, h1, h2⟩
  by_cases z : i = j
  · subst z
    rw [List.getElem?_set_self hi] at h1
    cases h1
    by_cases hl : i < σ.length
    · rw [List.getElem?_set_self hl] at h2
      cases h2
      exact hv o p rfl rfl
    · rw [List.getElem?_eq_none (by rw [List.length_set]; omega)] at h2; cases h2
  · rw [List.getElem?_set_ne z] at h1 h2
    exact n ⟨j, o, p, h1, h2⟩
theorem tS_par {i j : Nat} (w : tS K (sPar i j f g) D σ H) : tPar i j (tA K [f, g]) D σ H := by
  obtain ⟨ρ, Hb, rel, w⟩ := w
  refine ⟨ρ, Hb, rel, ?_⟩
  simp only [sPar] at w
  cases e0 : evs [f, g] ρ with
  | bad => simp only [e0, Rs.out_bad] at w; exact w.elim
  | ok rs ρ1 =>
  simp only [e0, Rs.out_ok] at w
  intro vs H1 Hb1 s1 k1 r1 f1 a1
  match rs, w, r1, f1, a1 with
  | [r, q], w, r1, f1, a1 =>
  obtain ⟨v, t, rfl, hr, v', t', rfl, hq, rt⟩ := r1
  cases (show t' = [] from rt)
  simp only at w
  refine ⟨v, v', rfl, ?_⟩
  cases e1 : mvS r with
  | none => simp only [e1, oOpt_none] at w; exact w.elim
  | some sa =>
  simp only [e1, oOpt_some] at w
  cases e2 : mvS q with
  | none => simp only [e2, oOpt_none] at w; exact w.elim
  | some sb =>
  simp only [e2, oOpt_some] at w
  cases e3 : stSl i sa ρ1 with
  | none => simp only [e3, oOpt_none] at w; exact w.elim
  | some ρ3 =>
  simp only [e3, oOpt_some] at w
  cases e4 : stSl j sb ρ3 with
  | none => simp only [e4, oOpt_none] at w; exact w.elim
  | some ρ4 =>
  simp only [e4, oOpt_some] at w
  obtain ⟨s3, p3⟩ := stSl_ok s1 k1.pin (mvS_ok hr f1.1 e1) e3
  have sb' : SlAt K ρ3 (σ.set i (some v)) H H1 Hb1 sb v' := by
    cases q with
    | val d => cases e2; exact ⟨rfl, hq⟩
    | own i => cases e2
    | new o =>
      cases e2
      obtain ⟨l, rfl, a, b, c⟩ := hq
      refine ⟨rfl, l, rfl, a, b, stSl_apart e3 c fun o2 p2 z => ?_, f1.2.1 l rfl⟩
      cases r with
      | val d => cases e1; cases z
      | own i => cases e1
      | new o3 => exact a1.1.1
  obtain ⟨s4, p4⟩ := stSl_ok s3 p3 sb' e4
  exact w _ H1 Hb1 s4 p4
theorem ds_par (i j : Nat) {x y : Str} {a b : Expr} {px py pt : Pos} {kt k2 : Nat} {pt2 : Pos} (hc : X.calm = true) (hN : X.N.Nodup) (ha : DA X [a, b] [f, g]) (hi : X.N[i]? = some x := by rfl) (hj : X.N[j]? = some y := by rfl) (hij : i ≠ j := by decide)
    (hx : X.env.scope.names.lookup x = some .local := by rfl) (hy : X.env.scope.names.lookup y = some .local := by rfl)
    (hw : swappedStores [.Tuple [.Name x px, .Name y py] kt pt] (.Tuple [a, b] k2 pt2) X.env = pure (some [x, y]) := by rfl)
    (hs : swapsWithSole [.Tuple [.Name x px, .Name y py] kt pt] (.Tuple [a, b] k2 pt2) pos.line X.env = pure false := by rfl) :
    DS X (.Assign [.Tuple [.Name x px, .Name y py] kt pt] (.Tuple [a, b] k2 pt2) pos) (sPar i j f g) := PS.imp (ps_par hc hN hi hj hij hx hy ha hw hs) fun _ _ _ w => tS_par w

/-! ### loops -/
theorem tS_for {it : SI} {t : STg} {sl : List Nat} (w : tS K (sFor it t F) D σ H) : tFor (tI K it) (tG K sl t) (tS K F) D σ H := by
  obtain ⟨ρ, Hb, rel, w⟩ := w
  refine ⟨ρ, Hb, rel, ?_⟩
  simp only [sFor] at w
  cases e1 : it ρ with
  | bad => simp only [e1, Rs.out_bad] at w; exact w.elim
  | ok ds ρ1 =>
  simp only [e1, Rs.out_ok] at w
  intro J H1 Hb1 s1 k1 wk
  refine ⟨fun i m σc Hc => m = ds.length - i ∧ i ≤ ds.length ∧ ∃ ρc Hbc, Ex Hb1 Hbc ∧ Rel K ρc σc Hc Hbc ∧ WpS K ρc σc Hc Hbc (forGo t F (ds.drop i) ρc) D,
    ⟨_, rfl, Nat.zero_le _, ρ1, Hb1, Evl.Ex.refl _, s1.rel, w.after s1 k1.pin⟩, fun i m σc Hc hW => ?_⟩
  obtain ⟨rfl, hi, ρc, Hbc, xb, rc, wc⟩ := hW
  by_cases hlast : i = ds.length
  · subst hlast
    left
    rw [List.drop_length] at wc
    exact ⟨wk.stop Hc Hbc xb rc.ex, wc σc Hc Hbc (.refl rc) .refl⟩
  right
  have hi' : i < ds.length := by omega
  have hd : ds[i]? = some ds[i] := List.getElem?_eq_getElem hi'
  have edrop : ds.drop i = ds[i] :: ds.drop (i + 1) := by rw [List.drop_eq_getElem_cons hi']
  obtain ⟨hgo, hyld⟩ := wk.go i ds[i] Hc Hbc xb rc.ex hd
  rw [edrop] at wc
  simp only [forGo] at wc
  refine ⟨hgo, fun σ' H' => ∃ ρ' Hb', Ex Hb1 Hb' ∧ Rel K ρ' σ' H' Hb' ∧ WpS K ρ' σ' H' Hb' (forGo t F (ds.drop (i + 1)) ρ') D,
    fun σ' H' hN => ⟨ds.length - (i + 1), by omega, rfl, by omega, hN⟩, fun x H' hy => ?_⟩
  obtain ⟨Hbc', x1, x2, x3, nw, hrx⟩ := hyld x H' hy
  have sg := rc.grow x1 x2 x3 nw
  replace x2 := ex_cl rc.nt x2
  refine ⟨ρc, cl Hbc', ds[i], sg.rel, Rep.cl _ _ hrx, ?_⟩
  cases e3 : t ds[i] ρc with
  | none => simp only [e3, oOpt_none] at wc; exact wc.elim
  | some ρ2 =>
  simp only [e3, oOpt_some] at wc
  intro σ2 s2 p2 l2 o2
  have S := sg.trans s2
  have P := (Pin.refl (ρ := ρc) (σ := σc)).trans p2
  refine ⟨ρ2, cl Hbc', s2.rel, ?_⟩
  have xb2 := xb.trans x2
  cases e4 : F ρ2 with
  | bad => simp only [e4] at wc; exact wc.elim
  | nx ρ3 =>
    simp only [e4] at wc
    exact fun σ3 H3 Hb3 s3 p3 => ⟨ρ3, Hb3, xb2.trans s3.ext, s3.rel, wc.after (S.trans s3) (P.trans p3)⟩
  | cnt ρ3 =>
    simp only [e4] at wc
    exact fun σ3 H3 Hb3 s3 p3 => ⟨ρ3, Hb3, xb2.trans s3.ext, s3.rel, wc.after (S.trans s3) (P.trans p3)⟩
  | brk ρ3 =>
    simp only [e4] at wc
    exact fun σ3 H3 Hb3 s3 p3 => wc σ3 H3 Hb3 (S.trans s3) (P.trans p3)
  | ret r ρ3 =>
    simp only [e4] at wc
    exact fun v σ3 H3 Hb3 s3 p3 r3 f3 => wc v σ3 H3 Hb3 (S.trans s3) (P.trans p3) r3 (f3.back S)
theorem ds_for {iter tg : Expr} {it : SI} {t : STg} {sl : List Nat} {body : List Stmt} (hp : PassesOwn (model X.prog X.w) X.A X.env X.xe) (hc : X.calm = true) (hi : DI X tg iter it) (hg : DG X tg sl t) (hb : DSs X body F)
    (hs : ∀ x, foldedSetIterable iter X.env x = pure x := by intro _; rfl) : DS X (.For tg iter body [] pos) (sFor it t F) := PS.imp (ps_for hp hc hi hg.pg hb hs) fun _ _ _ w => tS_for w
theorem tS_while {n : Nat} (w : tS K (sWhile n f F) D σ H) : tWhile (tT K f) (tS K F) D σ H := by
  obtain ⟨ρ, Hb, rel, w⟩ := w
  refine ⟨fun m σc Hc => ∃ ρc Hbc, Rel K ρc σc Hc Hbc ∧ WpS K ρc σc Hc Hbc (whileGo f F m ρc) D, ⟨n, ρ, Hb, rel, w⟩, fun m σc Hc hW => ?_⟩
  obtain ⟨ρc, Hbc, rc, wc⟩ := hW
  cases m with
  | zero => exact wc.elim
  | succ m =>
  simp only [whileGo] at wc
  refine ⟨ρc, Hbc, rc, ?_⟩
  show WpT K ρc σc Hc Hbc (f ρc) _
  cases q : f ρc with
  | bad => simp only [q, Rs.out_bad] at wc; exact wc.elim
  | ok r ρ1 =>
    simp only [q, Rs.out_ok] at wc
    match r, wc with
    | .val (.bl false), wc => exact fun H1 Hb1 s1 k1 => iteF (wc σc H1 Hb1 s1 k1.pin)
    | .val (.bl true), wc =>
      refine fun H1 Hb1 s1 k1 => iteT ⟨fun σ' H' => ∃ ρ' Hb', Rel K ρ' σ' H' Hb' ∧ WpS K ρ' σ' H' Hb' (whileGo f F m ρ') D, fun σ' H' h => ⟨m, Nat.lt_succ_self _, h⟩, ρ1, Hb1, s1.rel, ?_⟩
      have P := k1.pin (σ := σc)
      cases e4 : F ρ1 with
      | bad => simp only [e4] at wc; exact wc.elim
      | nx ρ3 =>
        simp only [e4] at wc
        exact fun σ3 H3 Hb3 s3 p3 => ⟨ρ3, Hb3, s3.rel, wc.after (s1.trans s3) (P.trans p3)⟩
      | cnt ρ3 =>
        simp only [e4] at wc
        exact fun σ3 H3 Hb3 s3 p3 => ⟨ρ3, Hb3, s3.rel, wc.after (s1.trans s3) (P.trans p3)⟩
      | brk ρ3 =>
        simp only [e4] at wc
        exact fun σ3 H3 Hb3 s3 p3 => wc σ3 H3 Hb3 (s1.trans s3) (P.trans p3)
      | ret r ρ3 =>
        simp only [e4] at wc
        exact fun v σ3 H3 Hb3 s3 p3 r3 f3 => wc v σ3 H3 Hb3 (s1.trans s3) (P.trans p3) r3 (f3.back s1)
theorem ds_while (n : Nat) {c : Expr} {body : List Stmt} (hp : PassesOwn (model X.prog X.w) X.A X.env X.xe) (hc : DE X c f) (hb : DSs X body F) : DS X (.While c body [] pos) (sWhile n f F) := PS.imp (ps_while hp hc.pt hb) fun _ _ _ w => tS_while w
end
end Sa

namespace Sa
open PySem L2 PySem.Spec PyProof.Rows
open Evl (Ex)

/-! ## A slot's own list changes -/
def sSetIx (i : Nat) (fi fv : SE) : SS := fun ρ => (fv ρ).out fun r ρ1 => match ρ1[i]? with
  | some (.own _ _) => (fi ρ1).out fun q ρ2 => match q with
    | .val (.int k) => oOpt (frz r ρ2) fun p => match p.2[i]? with
      | some (.own (.lst ds) pn) => oOpt (ixN ds.length k) fun j => .nx (p.2.set i (.own (.lst (ds.set j p.1)) pn))
      | _ => .bad
    | _ => .bad
  | _ => .bad
/-- a method that changes the list: its new items, and what it gives -/
abbrev MOp := List D → List D → Option (List D × D)
def sMut (i : Nat) (m : MOp) (fs : List SE) : SE := fun ρ => match ρ[i]? with
  | some (.own _ _) => (evs fs ρ).bind fun rs ρ1 => Rs.opt (frzs rs ρ1) fun p => match p.2[i]? with
    | some (.own (.lst ds) pn) => Rs.opt (m ds p.1) fun q => .ok (.val q.2) (p.2.set i (.own (.lst q.1) pn))
    | _ => .bad
  | _ => .bad
structure MutR (K : Fg) (r : V → List V → Hp → VK → Prop) (m : MOp) : Prop where
  run : ∀ (l : Addr) (xs : List V) (ds args : List D) (vs : List V) (H Hb : Hp) (ds' : List D) (out : D) (Q : VK), Ex Hb H → H l = some (.lst xs) → RepL K Hb ds xs → RepL K Hb args vs → m ds args = some (ds', out) →
    (∀ xs' v, RepL K Hb ds' xs' → Rep K Hb out v → Q v (upd H l (.lst xs'))) → r (.ref l) vs H Q
section
variable {X : Cx} {K : Fg} {ρ ρ1 ρ2 ρ' : Rho} {σ σ1 σ2 σ' : L2.St} {H H1 H' Hb Hb1 Hb' : Hp} {pos : Pos} {e : Expr} {f g : SE} {Q : VK} {En : Ends}
theorem mut_ok {ρ0 : Rho} {σ0 : L2.St} {H0 Hb0 : Hp} {i : Nat} {ds ds' : List D} {pn : Bool} {l : Addr} {xs' : List V} (st : Step K ρ0 σ0 H0 Hb0 ρ σ H Hb) (hi : ρ[i]? = some (.own (.lst ds) pn)) (hl : σ[i]? = some (some (.ref l))) (hr : RepL K Hb ds' xs') :
    Step K ρ0 σ0 H0 Hb0 (ρ.set i (.own (.lst ds') pn)) σ (upd H l (.lst xs')) Hb ∧ Keep ρ (ρ.set i (.own (.lst ds') pn)) := by
  have rel := st.rel
  have hlt : i < ρ.length := (List.getElem?_eq_some_iff.mp hi).1
  have own : Own ρ σ l := ⟨i, _, pn, hi, hl⟩
  obtain ⟨hlH, hlb⟩ := rel.own_some own
  have hLst : ∃ xs, H l = some (.lst xs) := by
    obtain ⟨l', z1, ⟨xs0, z2, _⟩, _⟩ := rel.own i _ _ hi
    rw [hl] at z1; cases z1
    exact ⟨xs0, z2⟩
  have back : ∀ (j : Nat) o p, (ρ.set i (.own (.lst ds') pn))[j]? = some (.own o p) → ∃ o', ρ[j]? = some (.own o' p) := fun j o p h => by
    by_cases z : i = j
    · subst z; rw [List.getElem?_set_self hlt] at h; cases h; exact ⟨_, hi⟩
    · rw [List.getElem?_set_ne z] at h; exact ⟨o, h⟩
  have ne : ∀ a, H0 a ≠ none → ¬ Own ρ0 σ0 a → a ≠ l := fun a h n z => by
    subst z
    rcases st.owA a own with w | w
    · exact n w
    · exact h w
  refine ⟨⟨⟨fun a o q => ?_, by rw [List.length_set]; exact rel.len, fun j d p h => ?_, fun j o p h => ?_, fun j k o p o' p' l' a b c d => ?_, rel.nt, tabs_upd rel.tb (.inr hLst)⟩, st.ext, fun a o h n m => ?_, st.nb, fun p a z => ?_, fun a h => ?_⟩, ⟨by rw [List.length_set], fun j h => ?_, fun j d p h => ?_, fun j o p h => ?_⟩⟩
  · rw [upd_ne (fun z => by rw [z, hlb] at q; cases q)]; exact rel.ex a o q
  · by_cases z : i = j
    · subst z; rw [List.getElem?_set_self hlt] at h; cases h
    · rw [List.getElem?_set_ne z] at h; exact rel.val j d p h
  · by_cases z : i = j
    · subst z
      rw [List.getElem?_set_self hlt] at h
      cases h
      exact ⟨l, hl, ⟨xs', upd_same, hr⟩, hlb⟩
    · rw [List.getElem?_set_ne z] at h
      obtain ⟨l', a, b, c⟩ := rel.own j o p h
      refine ⟨l', a, b.mono (upd_ne fun y => ?_) (Evl.Ex.refl _), c⟩
      subst y
      exact z (rel.sep i j _ pn o p l' hi h hl a)
  · obtain ⟨o1, a'⟩ := back j o p a
    obtain ⟨o2, b'⟩ := back k o' p' b
    exact rel.sep j k o1 p o2 p' l' a' b' c d
  · rw [upd_ne (ne a (by rw [h]; simp) n)]; exact st.kp a o h n m
  · obtain ⟨j, o, h1, h2⟩ := z
    obtain ⟨o1, h1'⟩ := back j o p h1
    exact st.ow p a ⟨j, o1, h1', h2⟩
  · by_cases z : a = l
    · subst z; rw [upd_same] at h; cases h
    · rw [upd_ne z] at h; exact st.al a h
  · rw [List.getElem?_set_ne (fun z => by subst z; rw [hi] at h; cases h)]; exact h
  · rw [List.getElem?_set_ne (fun z => by subst z; rw [hi] at h; cases h)]; exact h
  · by_cases z : i = j
    · subst z; rw [hi] at h; cases h; exact .inl ⟨_, List.getElem?_set_self hlt⟩
    · rw [List.getElem?_set_ne z]; exact .inl ⟨o, h⟩
theorem own_inv {s : Option Sl} {α : Sort _} {k : Ob → Bool → Out} (w : WpS K ρ σ H Hb (match s with | some (.own o p) => k o p | _ => .bad) En) : ∃ o p, s = some (.own o p) ∧ WpS K ρ σ H Hb (k o p) En := by
  match s, w with
  | some (.own o p), w => exact ⟨o, p, rfl, w⟩
  | none, w => exact w.elim
  | some .non, w => exact w.elim
  | some (.val _ _), w => exact w.elim
theorem tS_setIx {i : Nat} (w : tS K (sSetIx i g f) En σ H) : tAsg (tE K f) (gSub (tVar i) (tE K g) rSetL) En σ H := tE_then w fun ρ Hb r ρ1 v H1 Hb1 w s k hr hf => by
  cases e0 : ρ1[i]? with
  | none => simp only [e0] at w; exact w.elim
  | some sl0 =>
  match sl0, w, e0 with
  | .non, w, e0 => simp only [e0] at w; exact w.elim
  | .val _ _, w, e0 => simp only [e0] at w; exact w.elim
  | .own o0 p0, w, e0 =>
  simp only [e0] at w
  obtain ⟨l, hl, _, _⟩ := s.rel.own i o0 p0 e0
  refine ⟨.ref l, hl, ρ1, Hb1, s.rel, ?_⟩
  cases e1 : g ρ1 with
  | bad => simp only [e1, Rs.out_bad] at w; exact w.elim
  | ok q ρ2 =>
  simp only [e1, Rs.out_ok] at w
  match q, w, e1 with
  | .val (.int kx), w, e1 =>
  simp only at w
  intro y H2 Hb2 s2 k2 hy _
  cases e2 : frz r ρ2 with
  | none => simp only [e2, oOpt_none] at w; exact w.elim
  | some p =>
  obtain ⟨d, ρ3⟩ := p
  simp only [e2, oOpt_some] at w
  obtain ⟨Hb3, s3, k3, x3, rp, _, _⟩ := frz_ok (s.trans s2) (hr.step s2 k2) hf e2
  cases e3 : ρ3[i]? with
  | none => simp only [e3] at w; exact w.elim
  | some sl =>
  match sl, w, e3 with
  | .non, w, e3 => simp only [e3] at w; exact w.elim
  | .val _ _, w, e3 => simp only [e3] at w; exact w.elim
  | .own (.lst ds) pn, w, e3 =>
  simp only [e3] at w
  cases e4 : ixN ds.length kx with
  | none => simp only [e4, oOpt_none] at w; exact w.elim
  | some j =>
  simp only [e4, oOpt_some] at w
  obtain ⟨l', hl', ⟨xs, hH, hx⟩, _⟩ := s3.rel.own i _ pn e3
  rw [hl] at hl'; cases hl'
  obtain ⟨sm, km⟩ := mut_ok s3 e3 hl (hx.set j rp)
  exact ⟨l, xs, kx, j, rfl, hy, hH, by rw [← hx.len]; exact e4, w _ _ Hb3 sm ((k.trans k2).trans (k3.trans km)).pin⟩
theorem ds_setIx (i : Nat) {x : Str} {ix : Expr} {px ps : Pos} (he : DE X e f) (hi : DE X ix g) (hN : X.N[i]? = some x := by rfl) (hv : Vis X.env.scope x := by first | exact Or.inl rfl | exact Or.inr (Or.inl rfl) | exact Or.inr (Or.inr rfl))
    (hd : (x == ("__debug__" : Str)) = false := by decide) (hcd : (x == ("__classdict__" : Str)) = false := by decide)
    (ha : ∀ v, assign (.Subscript (.Name x px) ix ps) X.env v = (do
      let ov ← holding [v] (eval (.Name x px) X.env)
      let iv ← holding [v, ov] (eval ix X.env)
      standAt ps
      holding [v, ov, iv] (setItem ov iv v)
      release [v, ov, iv] []) := by intro _; rfl)
    (hs : swapsWithSole [.Subscript (.Name x px) ix ps] e pos.line X.env = pure false := by rfl) (hw : swappedStores [.Subscript (.Name x px) ix ps] e X.env = pure none := by rfl)
    (h1 : (assignEach [.Subscript (.Name x px) ix ps] X.env).map (·.2) = [assign (.Subscript (.Name x px) ix ps) X.env] := by rfl) :
    DS X (.Assign [.Subscript (.Name x px) ix ps] e pos) (sSetIx i g f) :=
  PS.imp (ps_asg he.pe (pg_sub (pe_var hN hv hd hcd) hi.pe set_list ha) hs hw h1) fun _ _ _ w => tS_setIx w

/-! ### methods of an own list -/
theorem tE_mut {i : Nat} {r : V → List V → Hp → VK → Prop} {m : MOp} {fs : List SE} (hm : MutR K r m) (w : tE K (sMut i m fs) σ H Q) : tVar i σ H fun x H1 => tyV K "list" x H1 ∧ tA K fs σ H1 fun xs H2 => r x xs H2 Q := by
  obtain ⟨ρ, Hb, rel, w⟩ := w
  simp only [sMut] at w
  cases e0 : ρ[i]? with
  | none => simp only [e0] at w; exact w.elim
  | some sl0 =>
  match sl0, w, e0 with
  | .non, w, e0 => simp only [e0] at w; exact w.elim
  | .val _ _, w, e0 => simp only [e0] at w; exact w.elim
  | .own (.lst ds0) p0, w, e0 =>
  simp only [e0] at w
  obtain ⟨l, hl, ⟨xs0, hH0, _⟩, _⟩ := rel.own i _ p0 e0
  refine ⟨.ref l, hl, Or.inl ⟨rfl, _, Or.inl (Or.inl hH0)⟩, ρ, Hb, rel, ?_⟩
  cases e1 : evs fs ρ with
  | bad => simp only [e1, Rs.bind_bad] at w; exact w.elim
  | ok rs ρ1 =>
  simp only [e1, Rs.bind_ok] at w
  intro vs H1 Hb1 s1 k1 r1 f1 a1
  cases e2 : frzs rs ρ1 with
  | none => simp only [e2, Rs.opt_none] at w; exact w.elim
  | some p =>
  obtain ⟨args, ρ2⟩ := p
  simp only [e2, Rs.opt_some] at w
  obtain ⟨Hb2, s2, k2, x2, rl⟩ := frzs_ok s1 r1 f1 a1 e2
  cases e3 : ρ2[i]? with
  | none => simp only [e3] at w; exact w.elim
  | some sl =>
  match sl, w, e3 with
  | .non, w, e3 => simp only [e3] at w; exact w.elim
  | .val _ _, w, e3 => simp only [e3] at w; exact w.elim
  | .own (.lst ds) pn, w, e3 =>
  simp only [e3] at w
  cases e4 : m ds args with
  | none => simp only [e4, Rs.opt_none] at w; exact w.elim
  | some q =>
  obtain ⟨ds', out⟩ := q
  simp only [e4, Rs.opt_some] at w
  obtain ⟨l', hl', ⟨xs, hH, hx⟩, _⟩ := s2.rel.own i _ pn e3
  rw [hl] at hl'; cases hl'
  refine hm.run l xs ds args vs H1 Hb2 ds' out Q s2.rel.ex hH hx rl e4 fun xs' v h1 h2 => ?_
  obtain ⟨sm, km⟩ := mut_ok s2 e3 hl h1
  exact w v _ Hb2 sm ((k1.trans k2).trans km) h2 trivial
theorem d_mut (i : Nat) {x name : Str} {id : String} {r : V → List V → Hp → VK → Prop} {m : MOp} {a : Expr} {es : List Expr} {fs : List SE} {px apos cpos : Pos} (slot : Slot "list" name id) (hty : typeOf (.builtin id) = pure (.type "method_descriptor")) (hr : MtR X id r) (hm : MutR X.K r m) (ha : DA X (a :: es) fs)
    (hN : X.N[i]? = some x := by rfl) (hv : Vis X.env.scope x := by first | exact Or.inl rfl | exact Or.inr (Or.inl rfl) | exact Or.inr (Or.inr rfl)) (hd : (x == ("__debug__" : Str)) = false := by decide) (hcd : (x == ("__classdict__" : Str)) = false := by decide)
    (hbase : attributeBase (.Name x px) name X.env (eval (.Name x px) X.env) = eval (.Name x px) X.env := by rfl)
    (hfew : ((backTo cpos (starEach (a :: es) X.env)).all (fun x => !x.1) && (backToKw cpos (keywordEach [] X.env)).all (fun x => x.1.isSome)
      && decide ((a :: es).length + ([] : List Keyword).length + (if ([] : List Keyword).isEmpty then 0 else 1) < 30)) = true := by rfl)
    (hline : (apos.endLine == cpos.line) = true := by rfl) (hs : starEach (a :: es) X.env = (false, eval a X.env) :: starEach es X.env := by rfl) (hplain : (backTo cpos (starEach es X.env)).any (·.1) = false := by rfl) :
    DE X (.Call (.Attribute (.Name x px) name apos) (a :: es) [] cpos) (sMut i m fs) :=
  .of (PE.imp (pe_bm PySem.F.plainAttrs_list slot hty hr (pe_var hN hv hd hcd) ha hbase hfew hline hs hplain) fun _ _ _ w => tE_mut hm w)
theorem tE_mut0 {i : Nat} {r : V → List V → Hp → VK → Prop} {m : MOp} (hm : MutR K r m) (w : tE K (sMut i m []) σ H Q) : tBM0 K "list" r (tVar i) σ H Q := by
  obtain ⟨v, h1, h2, h3⟩ := tE_mut hm w
  exact ⟨v, h1, h2, tA_nil h3⟩
theorem d_mut0 (i : Nat) {x name : Str} {id : String} {r : V → List V → Hp → VK → Prop} {m : MOp} {px apos cpos : Pos} (slot : Slot "list" name id) (hty : typeOf (.builtin id) = pure (.type "method_descriptor")) (hr : MtR X id r) (hm : MutR X.K r m)
    (hN : X.N[i]? = some x := by rfl) (hv : Vis X.env.scope x := by first | exact Or.inl rfl | exact Or.inr (Or.inl rfl) | exact Or.inr (Or.inr rfl)) (hd : (x == ("__debug__" : Str)) = false := by decide) (hcd : (x == ("__classdict__" : Str)) = false := by decide)
    (hbase : attributeBase (.Name x px) name X.env (eval (.Name x px) X.env) = eval (.Name x px) X.env := by rfl) (hline : (apos.endLine == cpos.line) = true := by rfl) : DE X (.Call (.Attribute (.Name x px) name apos) [] [] cpos) (sMut i m []) :=
  .of (PE.imp (pe_bm0 PySem.F.plainAttrs_list slot hty hr (pe_var hN hv hd hcd) hbase hline) fun _ _ _ w => tE_mut0 hm w)
def mAppend : MOp := fun ds args => match args with
  | [d] => if szOk ds.length = true then some (ds ++ [d], .non) else none
  | _ => none
theorem m_append : MutR K rAppend mAppend := ⟨fun l xs ds args vs H Hb ds' out Q _ hl hx ha e k => by
  unfold mAppend at e
  split at e
  · split at e
    · rename_i d hz
      cases e
      obtain ⟨v, t, rfl, h1, ht⟩ := ha
      cases (show t = [] from ht)
      exact ⟨l, xs, v, rfl, rfl, hl, by rw [← hx.len]; exact szOk_lt hz, k _ _ (hx.app (.one h1)) rfl⟩
    · cases e
  · cases e⟩
def mExtend : MOp := fun ds args => match args with
  | [.lst es] => if szOk (ds.length + es.length) = true then some (ds ++ es, .non) else none
  | _ => none
def mPopAt : MOp := fun ds args => match args with
  | [.int i] => if okR i = true then (seqIndex? i ds.length).bind fun k => (ds[k]?).map fun d => (ds.eraseIdx k, d) else none
  | _ => none
theorem m_popAt : MutR K rPopAt mPopAt := ⟨fun l xs ds args vs H Hb ds' out Q _ hl hx ha e k => by
  unfold mPopAt at e
  split at e
  · split at e
    · rename_i i hz
      obtain ⟨h1, h2⟩ := okR_iff hz
      obtain ⟨v, t, rfl, hv, ht⟩ := ha
      cases (show t = [] from ht)
      cases q : seqIndex? i ds.length with
      | none => rw [q] at e; cases e
      | some j =>
        rw [q, Option.bind_some] at e
        cases q2 : ds[j]? with
        | none => rw [q2] at e; cases e
        | some d =>
          rw [q2] at e
          cases e
          obtain ⟨y, hy, hr⟩ := hx.get q2
          exact ⟨l, xs, i, j, y, rfl, by rw [show v = .int i from hv], hl, by omega, by omega, by rw [← hx.len]; exact q, hy, k _ _ (hx.erase j) hr⟩
    · cases e
  · cases e⟩
end
end Sa

namespace Sa
open PySem L2 PySem.Spec PyProof.Rows
open Evl (Ex)

/-! ## Defs: what they are worth; calls -/
inductive FR where
  | ok (o : NO) (ps : List Sl) | bad
abbrev Fn := List Sl → FR
structure CallPost (K : Fg) (ps : List Sl) (vs : List V) (H Hb : Hp) (o : NO) (ps' : List Sl) (v : V) (H' Hb' : Hp) : Prop where
  rel : Rel K ps' (vs.map some) H' Hb'
  ext : Ex Hb Hb'
  kp : ∀ a u, H a = some u → ¬ Own ps (vs.map some) a → (∀ ps, u ≠ .tbl ps) → H' a = some u
  nb : ∀ a, H a ≠ none → Hb a = none → ¬ Own ps (vs.map some) a → Hb' a = none
  al : ∀ a, H' a = none → H a = none
  keep : Keep ps ps'
  res : ResAt K ps' (vs.map some) H' Hb' o.r v
  fresh : Fresh H o.r v
def spI (K : Fg) (F : Fn) : Sp := fun vs H Q _ => ∃ ps Hb, Rel K ps (vs.map some) H Hb ∧ match F ps with
  | .ok o ps' => ∀ v H' Hb', CallPost K ps vs H Hb o ps' v H' Hb' → Q v H'
  | .bad => False

/-! ### a call -/
def toSl (ρ : Rho) : R → Option Sl
  | .val d => some (.val d false)
  | .new o => some (.own o false)
  | .own i => match ρ[i]? with
    | some (.own o _) => some (.own o false)
    | some (.val d _) => some (.val d false)
    | _ => none
def toSls (ρ : Rho) : List R → Option (List Sl)
  | [] => some []
  | r :: rs => (toSl ρ r).bind fun s => (toSls ρ rs).bind fun ss => some (s :: ss)
def isOwn (ρ : Rho) (i : Nat) : Bool := match ρ[i]? with
  | some (.own _ _) => true
  | _ => false
/-- the slots whose objects go along -/
def lent (ρ : Rho) : List R → List Nat
  | [] => []
  | .own i :: rs => if isOwn ρ i = true then i :: lent ρ rs else lent ρ rs
  | _ :: rs => lent ρ rs
def noTwice : List Nat → Bool
  | [] => true
  | i :: l => !l.contains i && noTwice l
def backSl (s0 : Sl) (s : Sl) : Sl := match s0, s with
  | .own _ p, .own o _ => .own o p
  | .own _ p, .val d _ => .val d p
  | s0, _ => s0
def putB : List R → List Sl → Rho → Rho
  | .own i :: rs, s :: ps, ρ => putB rs ps (match ρ[i]? with | some s0 => ρ.set i (backSl s0 s) | none => ρ)
  | _ :: rs, _ :: ps, ρ => putB rs ps ρ
  | _, _, ρ => ρ
def sCall (F : Fn) (fs : List SE) : SE := fun ρ => (evs fs ρ).bind fun rs ρ1 => Rs.opt (toSls ρ1 rs) fun ps => if noTwice (lent ρ1 rs) = true then
    match F ps with
    | .ok o ps' => .ok o.r (putB rs ps' ρ1)
    | .bad => .bad
  else .bad

section
variable {X : Cx} {K : Fg} {ρ ρ0 ρ1 ρ2 ρ' : Rho} {σ σ0 σ1 σ2 σ' : L2.St} {H H0 H1 H2 H' Hb Hb0 Hb1 Hb2 Hb' : Hp} {pos : Pos} {e : Expr} {f g : SE} {Q : VK}
theorem ResL.get : ∀ {rs : List R} {vs : List V} {i : Nat} {r : R}, ResL K ρ σ H Hb rs vs → rs[i]? = some r → ∃ v, vs[i]? = some v ∧ ResAt K ρ σ H Hb r v
  | [], _, i, _, _, e => by simp at e
  | _ :: _, _, 0, _, h, e => by
    obtain ⟨v, t, rfl, h1, _⟩ := h
    simp at e; subst e
    exact ⟨v, rfl, h1⟩
  | _ :: rs, _, i + 1, _, h, e => by
    obtain ⟨v, t, rfl, _, h2⟩ := h
    obtain ⟨w, a, b⟩ := ResL.get (i := i) h2 (by simpa using e)
    exact ⟨w, by simpa using a, b⟩
theorem FreshL.get : ∀ {rs : List R} {vs : List V} {i : Nat} {r : R} {v : V}, FreshL H rs vs → rs[i]? = some r → vs[i]? = some v → Fresh H r v
  | [], _, i, _, _, _, e, _ => by simp at e
  | _ :: _, [], i, _, _, _, _, e => by simp at e
  | _ :: _, _ :: _, 0, _, _, h, e, e' => by
    simp at e e'; subst e; subst e'
    exact h.1
  | _ :: rs, _ :: vs, i + 1, _, _, h, e, e' => FreshL.get (i := i) h.2 (by simpa using e) (by simpa using e')
theorem NotNew.get : ∀ {v : V} {rs : List R} {vs : List V} {j : Nat} {o : Ob} {w : V}, NotNew v rs vs → rs[j]? = some (.new o) → vs[j]? = some w → v ≠ w
  | _, [], _, _, _, _, _, e, _ => by simp at e
  | _, _ :: _, [], _, _, _, _, _, e => by simp at e
  | v, r :: rs, w :: ws, 0, _, _, h, e, e' => by
    simp at e e'; subst e; subst e'
    exact h.1
  | v, r :: rs, w :: ws, j + 1, _, _, h, e, e' => by
    have h' : NotNew v rs ws := by
      cases r with
      | new o => exact h.2
      | val d => exact h
      | own i => exact h
    exact NotNew.get (j := j) h' (by simpa using e) (by simpa using e')
theorem Apart.get : ∀ {rs : List R} {vs : List V} {i j : Nat} {o o' : Ob} {v w : V}, Apart rs vs → i < j → rs[i]? = some (.new o) → rs[j]? = some (.new o') → vs[i]? = some v → vs[j]? = some w → v ≠ w
  | [], _, _, _, _, _, _, _, _, _, e, _, _, _ => by simp at e
  | _ :: _, [], _, _, _, _, _, _, _, _, _, _, e, _ => by simp at e
  | r :: rs, v :: vs, 0, j + 1, o, o', v', w, h, _, e1, e2, e3, e4 => by
    simp at e1 e3; subst e1; subst e3
    exact NotNew.get (j := j) h.1 (by simpa using e2) (by simpa using e4)
  | r :: rs, v :: vs, i + 1, j + 1, _, _, _, _, h, hij, e1, e2, e3, e4 =>
    Apart.get (i := i) (j := j) h.tail (by omega) (by simpa using e1) (by simpa using e2) (by simpa using e3) (by simpa using e4)
theorem toSls_get : ∀ {rs : List R} {ps : List Sl}, toSls ρ rs = some ps → ps.length = rs.length ∧ ∀ (i : Nat) s, ps[i]? = some s → ∃ r, rs[i]? = some r ∧ toSl ρ r = some s
  | [], ps, h => by cases h; exact ⟨rfl, fun i s e => by simp at e⟩
  | r :: rs, ps, h => by
    simp only [toSls] at h
    cases e1 : toSl ρ r with
    | none => simp only [e1, Option.bind_none] at h; cases h
    | some s =>
      simp only [e1, Option.bind_some] at h
      cases e2 : toSls ρ rs with
      | none => simp only [e2, Option.bind_none] at h; cases h
      | some ss =>
        simp only [e2, Option.bind_some] at h
        cases h
        obtain ⟨a, b⟩ := toSls_get e2
        refine ⟨by simp [a], fun i s' e => ?_⟩
        cases i with
        | zero => simp at e; subst e; exact ⟨r, rfl, e1⟩
        | succ i =>
          obtain ⟨q, q1, q2⟩ := b i s' (by simpa using e)
          exact ⟨q, by simpa using q1, q2⟩
theorem noTwice_nd : ∀ {l : List Nat}, noTwice l = true → l.Nodup
  | [], _ => List.nodup_nil
  | i :: l, h => by
    unfold noTwice at h
    obtain ⟨a, b⟩ := Bool.and_eq_true_iff.mp h
    exact List.nodup_cons.mpr ⟨by simpa using a, noTwice_nd b⟩
/-- two places that lend one slot are one place -/
theorem lent_one : ∀ {rs : List R} {i j k : Nat}, (lent ρ rs).Nodup → isOwn ρ k = true → rs[i]? = some (.own k) → rs[j]? = some (.own k) → i = j
  | [], i, _, _, _, _, e, _ => by simp at e
  | r :: rs, i, j, k, h, ho, e1, e2 => by
    have mem : ∀ (rs : List R) (i : Nat), rs[i]? = some (.own k) → k ∈ lent ρ rs := by
      intro rs
      induction rs with
      | nil => intro i e; simp at e
      | cons r rs ih =>
        intro i e
        cases i with
        | zero =>
          simp at e; subst e
          simp only [lent, ho, if_true]
          exact List.mem_cons_self
        | succ i =>
          have := ih i (by simpa using e)
          cases r with
          | own m =>
            simp only [lent]
            split
            · exact List.mem_cons_of_mem _ this
            · exact this
          | val d => exact this
          | new o => exact this
    have tail : (lent ρ rs).Nodup := by
      cases r with
      | own m =>
        simp only [lent] at h
        split at h
        · exact (List.nodup_cons.mp h).2
        · exact h
      | val d => exact h
      | new o => exact h
    cases i with
    | zero =>
      cases j with
      | zero => rfl
      | succ j =>
        simp at e1; subst e1
        simp only [lent, ho, if_true] at h
        exact absurd (mem rs j (by simpa using e2)) (List.nodup_cons.mp h).1
    | succ i =>
      cases j with
      | zero =>
        simp at e2; subst e2
        simp only [lent, ho, if_true] at h
        exact absurd (mem rs i (by simpa using e1)) (List.nodup_cons.mp h).1
      | succ j => rw [lent_one (i := i) (j := j) tail ho (by simpa using e1) (by simpa using e2)]
/-- the arguments as a callee's slots -/
theorem args_rel {rs : List R} {vs : List V} {ps : List Sl} (rel : Rel K ρ σ H Hb) (hr : ResL K ρ σ H Hb rs vs) (ap : Apart rs vs) (e : toSls ρ rs = some ps) (nt : noTwice (lent ρ rs) = true) : Rel K ps (vs.map some) H Hb := by
  obtain ⟨hl, hg⟩ := toSls_get e
  have gv : ∀ {i : Nat} {r : R}, rs[i]? = some r → ∃ v, (vs.map some)[i]? = some (some v) ∧ ResAt K ρ σ H Hb r v := fun {i r} q => by
    obtain ⟨v, a, b⟩ := hr.get q
    exact ⟨v, by rw [List.getElem?_map, a]; rfl, b⟩
  -- where a slot owns: a new object, or a slot's of ours
  have ow : ∀ {i : Nat} {o : Ob} {p : Bool} {r : R}, ps[i]? = some (.own o p) → rs[i]? = some r → toSl ρ r = some (.own o p) → (r = .new o) ∨ ∃ k p', r = .own k ∧ ρ[k]? = some (.own o p') := fun {i o p r} _ _ q => by
    cases r with
    | val d => cases q
    | new o' => cases q; exact .inl rfl
    | own k =>
      simp only [toSl] at q
      split at q
      · rename_i o2 p2 h2; cases q; exact .inr ⟨k, p2, rfl, h2⟩
      · cases q
      · cases q
  refine ⟨rel.ex, by rw [List.length_map, ← hr.len, hl], fun i d p q => ?_, fun i o p q => ?_, fun i j o p o' p' l a b c d => ?_, rel.nt, rel.tb⟩
  · obtain ⟨r, q1, q2⟩ := hg i _ q
    obtain ⟨v, a, b⟩ := gv q1
    refine ⟨v, a, ?_⟩
    cases r with
    | val d' => cases q2; exact b
    | new o => cases q2
    | own k =>
      simp only [toSl] at q2
      split at q2
      · cases q2
      · rename_i d2 p2 h2
        cases q2
        obtain ⟨w, e1, e2⟩ := rel.val k _ p2 h2
        rw [b.1] at e1; cases e1
        exact e2
      · cases q2
  · obtain ⟨r, q1, q2⟩ := hg i _ q
    obtain ⟨v, a, b⟩ := gv q1
    rcases ow q q1 q2 with rfl | ⟨k, p', rfl, h⟩
    · obtain ⟨l, rfl, h1, h2, _⟩ := b
      exact ⟨l, a, h1, h2⟩
    · obtain ⟨l, e1, e2, e3⟩ := rel.own k o p' h
      rw [b.1] at e1; cases e1
      exact ⟨l, a, e2, e3⟩
  · obtain ⟨r, q1, q2⟩ := hg i _ a
    obtain ⟨r', q1', q2'⟩ := hg j _ b
    obtain ⟨v, a1, a2⟩ := gv q1
    obtain ⟨v', b1, b2⟩ := gv q1'
    rw [c] at a1; cases a1
    rw [d] at b1; cases b1
    have vi : vs[i]? = some (.ref l) := by rw [List.getElem?_map] at c; cases z : vs[i]? with | none => rw [z] at c; cases c | some x => rw [z] at c; cases c; rfl
    have vj : vs[j]? = some (.ref l) := by rw [List.getElem?_map] at d; cases z : vs[j]? with | none => rw [z] at d; cases d | some x => rw [z] at d; cases d; rfl
    rcases ow a q1 q2 with rfl | ⟨k, pk, rfl, h⟩
    · rcases ow b q1' q2' with rfl | ⟨k', pk', rfl, h'⟩
      · rcases Nat.lt_trichotomy i j with z | z | z
        · exact absurd rfl (ap.get z q1 q1' vi vj)
        · exact z
        · exact absurd rfl (ap.get z q1' q1 vj vi)
      · obtain ⟨l', e0, _, _, n⟩ := a2
        cases e0
        exact absurd ⟨k', o', pk', h', b2.1⟩ n
    · rcases ow b q1' q2' with rfl | ⟨k', pk', rfl, h'⟩
      · obtain ⟨l', e0, _, _, n⟩ := b2
        cases e0
        exact absurd ⟨k, o, pk, h, a2.1⟩ n
      · have : k = k' := rel.sep k k' o pk o' pk' l h h' a2.1 b2.1
        subst this
        exact lent_one (noTwice_nd nt) (by unfold isOwn; rw [h]) q1 q1'
/-- what comes back into our slots -/
theorem putB_get : ∀ {rs : List R} {ps : List Sl} {ρ : Rho} {i : Nat}, rs.length = ps.length → (lent ρ rs).Nodup →
    (putB rs ps ρ).length = ρ.length ∧ ((∀ (k : Nat), rs[k]? = some (R.own i) → isOwn ρ i = false) → (putB rs ps ρ)[i]? = ρ[i]?) ∧
    (∀ (k : Nat) s0 s, rs[k]? = some (.own i) → ps[k]? = some s → ρ[i]? = some s0 → (putB rs ps ρ)[i]? = some (backSl s0 s) ∨ isOwn ρ i = false ∧ (putB rs ps ρ)[i]? = some s0)
  | [], [], ρ, i, _, _ => ⟨rfl, fun _ => rfl, fun k s0 s e => by simp at e⟩
  | [], _ :: _, _, _, h, _ => by simp at h
  | _ :: _, [], _, _, h, _ => by simp at h
  | r :: rs, s1 :: ps, ρ, i, hl, nd => by
    have hl' : rs.length = ps.length := by simpa using hl
    cases r with
    | val d =>
      obtain ⟨a, b, c⟩ := putB_get (rs := rs) (ps := ps) (ρ := ρ) (i := i) hl' nd
      refine ⟨a, fun h => b fun k e => h (k + 1) (by simpa using e), fun k s0 s e1 e2 e3 => ?_⟩
      cases k with
      | zero => simp at e1
      | succ k => exact c k s0 s (by simpa using e1) (by simpa using e2) e3
    | new o =>
      obtain ⟨a, b, c⟩ := putB_get (rs := rs) (ps := ps) (ρ := ρ) (i := i) hl' nd
      refine ⟨a, fun h => b fun k e => h (k + 1) (by simpa using e), fun k s0 s e1 e2 e3 => ?_⟩
      cases k with
      | zero => simp at e1
      | succ k => exact c k s0 s (by simpa using e1) (by simpa using e2) e3
    | own m =>
      simp only [putB]
      cases hm : ρ[m]? with
      | none =>
        have im : isOwn ρ m = false := by unfold isOwn; rw [hm]
        have nd' : (lent ρ rs).Nodup := by simpa only [lent, im, if_false, Bool.false_eq_true] using nd
        obtain ⟨a, b, c⟩ := putB_get (rs := rs) (ps := ps) (ρ := ρ) (i := i) hl' nd'
        refine ⟨a, fun h => b fun k e => h (k + 1) (by simpa using e), fun k s0 s e1 e2 e3 => ?_⟩
        cases k with
        | zero =>
          simp at e1; subst e1
          rw [hm] at e3; cases e3
        | succ k => exact c k s0 s (by simpa using e1) (by simpa using e2) e3
      | some sm =>
        have hml : m < ρ.length := (List.getElem?_eq_some_iff.mp hm).1
        have own' : ∀ k, isOwn (ρ.set m (backSl sm s1)) k = true → isOwn ρ k = true := fun k h => by
          unfold isOwn at h ⊢
          by_cases z : m = k
          · subst z
            rw [List.getElem?_set_self hml] at h
            rw [hm]
            cases sm with
            | own o p => rfl
            | val d p => exact h
            | non => exact h
          · rw [List.getElem?_set_ne z] at h; exact h
        have sub : ∀ (rs : List R), (lent (ρ.set m (backSl sm s1)) rs).Sublist (lent ρ rs) := by
          intro rs
          induction rs with
          | nil => exact List.Sublist.refl _
          | cons r rs ih =>
            cases r with
            | own k =>
              simp only [lent]
              by_cases h1 : isOwn (ρ.set m (backSl sm s1)) k = true
              · rw [if_pos h1, if_pos (own' k h1)]; exact ih.cons_cons _
              · rw [if_neg h1]
                by_cases h2 : isOwn ρ k = true
                · rw [if_pos h2]; exact ih.cons _
                · rw [if_neg h2]; exact ih
            | val d => exact ih
            | new o => exact ih
        have ndt : (lent ρ rs).Nodup := by
          simp only [lent] at nd
          split at nd
          · exact (List.nodup_cons.mp nd).2
          · exact nd
        have nd' := (sub rs).nodup ndt
        obtain ⟨a, b, c⟩ := putB_get (rs := rs) (ps := ps) (ρ := ρ.set m (backSl sm s1)) (i := i) hl' nd'
        refine ⟨by rw [a, List.length_set], fun h => ?_, fun k s0 s e1 e2 e3 => ?_⟩
        · have im : m = i → isOwn ρ i = false := fun z => h 0 (by simp [z])
          have e : (ρ.set m (backSl sm s1))[i]? = ρ[i]? := by
            by_cases z : m = i
            · have q := im z
              subst z
              rw [List.getElem?_set_self hml, hm]
              unfold isOwn at q
              rw [hm] at q
              cases sm with
              | own o p => cases q
              | val d p => rfl
              | non => rfl
            · exact List.getElem?_set_ne z
          rw [← e]
          refine b fun k q => ?_
          have w := h (k + 1) (by simpa using q)
          cases q2 : isOwn (ρ.set m (backSl sm s1)) i with
          | false => rfl
          | true => rw [own' i q2] at w; cases w
        · cases k with
          | zero =>
            simp at e1 e2; subst e1; subst e2
            rw [hm] at e3; cases e3
            cases q : isOwn ρ m with
            | false =>
              right
              refine ⟨rfl, ?_⟩
              have e : (ρ.set m (backSl sm s1))[m]? = some sm := by
                rw [List.getElem?_set_self hml]
                unfold isOwn at q
                rw [hm] at q
                cases sm with
                | own o p => cases q
                | val d p => rfl
                | non => rfl
              refine Eq.trans (b fun k _ => ?_) e
              cases q2 : isOwn (ρ.set m (backSl sm s1)) m with
              | false => rfl
              | true => rw [own' m q2] at q; cases q
            | true =>
              left
              have nm : m ∉ lent ρ rs := by
                simp only [lent, q, if_true] at nd
                exact (List.nodup_cons.mp nd).1
              have nk : ∀ (rs : List R) (k : Nat), m ∉ lent ρ rs → rs[k]? ≠ some (.own m) := by
                intro rs
                induction rs with
                | nil => intro k _ e; simp at e
                | cons r rs ih =>
                  intro k hn e
                  cases k with
                  | zero =>
                    simp at e; subst e
                    simp only [lent, q, if_true] at hn
                    exact hn List.mem_cons_self
                  | succ k =>
                    refine ih k (fun z => hn ?_) (by simpa using e)
                    cases r with
                    | own j =>
                      simp only [lent]
                      split
                      · exact List.mem_cons_of_mem _ z
                      · exact z
                    | val d => exact z
                    | new o => exact z
              rw [b fun k e => absurd e (nk rs k nm), List.getElem?_set_self hml]
          | succ k =>
            by_cases z : m = i
            · subst z
              rw [hm] at e3; cases e3
              cases q : isOwn ρ m with
              | true =>
                -- lent twice
                have := lent_one (ρ := ρ) (rs := .own m :: rs) (i := 0) (j := k + 1) nd q rfl e1
                omega
              | false =>
                right
                refine ⟨rfl, ?_⟩
                have e : (ρ.set m (backSl sm s1))[m]? = some sm := by
                  rw [List.getElem?_set_self hml]
                  unfold isOwn at q
                  rw [hm] at q
                  cases sm with
                  | own o p => cases q
                  | val d p => rfl
                  | non => rfl
                refine Eq.trans (b fun k _ => ?_) e
                cases q2 : isOwn (ρ.set m (backSl sm s1)) m with
                | false => rfl
                | true => rw [own' m q2] at q; cases q
            · have e : (ρ.set m (backSl sm s1))[i]? = some s0 := by rw [List.getElem?_set_ne z]; exact e3
              rcases c k s0 s (by simpa using e1) (by simpa using e2) e with w | ⟨w1, w2⟩
              · exact .inl w
              · refine .inr ⟨?_, w2⟩
                unfold isOwn at w1 ⊢
                rw [List.getElem?_set_ne z] at w1
                exact w1
end
end Sa

namespace Sa
open PySem L2 PySem.Spec PyProof.Rows
open Evl (Ex)
section
variable {X : Cx} {K : Fg} {ρ ρ0 ρ1 ρ2 ρ' : Rho} {σ σ0 σ1 σ2 σ' : L2.St} {H H0 H1 H2 H' Hb Hb0 Hb1 Hb2 Hb' : Hp} {pos : Pos} {e : Expr} {f g : SE} {Q : VK}
/-- behind a call -/
theorem call_back {rs : List R} {vs : List V} {ps ps' : List Sl} {o : NO} {v : V} (s : Step K ρ0 σ0 H0 Hb0 ρ σ H Hb) (hr : ResL K ρ σ H Hb rs vs) (hf : FreshL H0 rs vs) (e : toSls ρ rs = some ps) (nt : noTwice (lent ρ rs) = true)
    (c : CallPost K ps vs H Hb o ps' v H' Hb') : Step K ρ0 σ0 H0 Hb0 (putB rs ps' ρ) σ H' Hb' ∧ Keep ρ (putB rs ps' ρ) ∧ ResAt K (putB rs ps' ρ) σ H' Hb' o.r v := by
  obtain ⟨hl, hg⟩ := toSls_get e
  have hl' : rs.length = ps'.length := by rw [c.keep.len, hl]
  have nd := noTwice_nd nt
  have pb := fun i => putB_get (rs := rs) (ps := ps') (ρ := ρ) (i := i) hl' nd
  have rel := s.rel
  have isO : ∀ {i : Nat} {o : Ob} {p : Bool}, ρ[i]? = some (.own o p) → isOwn ρ i = true := fun {i o p} h => by unfold isOwn; rw [h]
  have notO : ∀ {i : Nat} {s0 : Sl}, ρ[i]? = some s0 → (∀ o p, s0 ≠ .own o p) → isOwn ρ i = false := fun {i s0} h n => by
    unfold isOwn; rw [h]
    cases s0 with
    | own o p => exact absurd rfl (n o p)
    | val d p => rfl
    | non => rfl
  -- what owns among the arguments
  have ownA : ∀ a, Own ps (vs.map some) a → Own ρ σ a ∨ H0 a = none := fun a ⟨i, o, p, h1, h2⟩ => by
    obtain ⟨r, q1, q2⟩ := hg i _ h1
    obtain ⟨w, w1, w2⟩ := hr.get q1
    rw [List.getElem?_map, w1] at h2
    have ew : w = .ref a := by
      have : some w = some (V.ref a) := Option.some.inj h2
      exact Option.some.inj this
    subst ew
    cases r with
    | val d => cases q2
    | new o' =>
      have fr := hf.get q1 w1
      exact .inr (fr a rfl)
    | own k =>
      simp only [toSl] at q2
      split at q2
      · rename_i o2 p2 h3
        exact .inl ⟨k, o2, p2, h3, w2.1⟩
      · cases q2
      · cases q2
  have nOwnA : ∀ a, H0 a ≠ none → ¬ Own ρ0 σ0 a → ¬ Own ps (vs.map some) a := fun a h n z => by
    rcases ownA a z with z | z
    · rcases s.owA a z with y | y
      · exact n y
      · exact h y
    · exact h z
  -- the slots one by one
  have cas : ∀ (i : Nat) s0, ρ[i]? = some s0 → ((∀ (k : Nat), rs[k]? = some (R.own i) → isOwn ρ i = false) ∧ (putB rs ps' ρ)[i]? = some s0) ∨
      (isOwn ρ i = true ∧ ∃ (k : Nat) (sk : Sl), rs[k]? = some (R.own i) ∧ ps'[k]? = some sk ∧ (putB rs ps' ρ)[i]? = some (backSl s0 sk)) := fun i s0 h => by
    obtain ⟨a, b, d⟩ := pb i
    by_cases z : ∀ (k : Nat), rs[k]? = some (R.own i) → isOwn ρ i = false
    · exact .inl ⟨z, by rw [b z]; exact h⟩
    · right
      have z' : ∃ k : Nat, rs[k]? = some (R.own i) ∧ isOwn ρ i = true := by
        apply Classical.byContradiction
        intro n
        apply z
        intro k hk
        cases q : isOwn ρ i with
        | false => rfl
        | true => exact absurd ⟨k, hk, q⟩ n
      obtain ⟨k, hk, ho⟩ := z'
      have kl : k < ps'.length := by rw [← hl']; exact (List.getElem?_eq_some_iff.mp hk).1
      have hps : ps'[k]? = some ps'[k] := List.getElem?_eq_getElem kl
      rcases d k s0 ps'[k] hk hps h with w | ⟨w, _⟩
      · exact ⟨ho, k, _, hk, hps, w⟩
      · rw [ho] at w; cases w
  have lenB : (putB rs ps' ρ).length = ρ.length := (pb 0).1
  have slotK : ∀ {k i : Nat} {o0 : Ob} {p0 : Bool}, ρ[i]? = some (.own o0 p0) → rs[k]? = some (R.own i) → ps[k]? = some (.own o0 false) ∧ ∃ w, vs[k]? = some w ∧ σ[i]? = some (some w) := fun {k i o0 p0} h hk => by
    have kl : k < ps.length := by rw [hl]; exact (List.getElem?_eq_some_iff.mp hk).1
    obtain ⟨r, q1, q2⟩ := hg k _ (List.getElem?_eq_getElem kl)
    rw [hk] at q1; cases q1
    simp only [toSl, h] at q2
    obtain ⟨w, w1, w2⟩ := hr.get hk
    exact ⟨by rw [List.getElem?_eq_getElem kl]; exact congrArg some (Option.some.inj q2).symm, w, w1, w2.1⟩
  -- a slot that owned: what it is now
  have kpB : Keep ρ (putB rs ps' ρ) := by
    refine ⟨lenB, fun i h => ?_, fun i d p h => ?_, fun i o0 p0 h => ?_⟩
    · rcases cas i _ h with ⟨_, w⟩ | ⟨ho, _⟩
      · exact w
      · rw [notO h (fun _ _ z => by cases z)] at ho; cases ho
    · rcases cas i _ h with ⟨_, w⟩ | ⟨ho, _⟩
      · exact w
      · rw [notO h (fun _ _ z => by cases z)] at ho; cases ho
    · rcases cas i _ h with ⟨_, w⟩ | ⟨ho, k, sk, hk, hps, w⟩
      · exact .inl ⟨o0, w⟩
      · obtain ⟨hk0, _⟩ := slotK h hk
        rcases c.keep.own k o0 false hk0 with ⟨o', h1⟩ | ⟨d, h1⟩
        · rw [hps] at h1; cases h1
          exact .inl ⟨o', w⟩
        · rw [hps] at h1; cases h1
          exact .inr ⟨d, w⟩
  have st : Step K ρ0 σ0 H0 Hb0 (putB rs ps' ρ) σ H' Hb' := by
    refine ⟨⟨c.rel.ex, by rw [lenB]; exact rel.len, fun i d p h => ?_, fun i o1 p1 h => ?_, fun i j o1 p1 o2 p2 l a b d f => ?_, c.rel.nt, c.rel.tb⟩, s.ext.trans c.ext, fun a u h n m => ?_, fun a h h' n => ?_, fun p a z => ?_, fun a h => s.al a (c.al a h)⟩
    · -- data
      have hi : i < ρ.length := by rw [← lenB]; exact (List.getElem?_eq_some_iff.mp h).1
      have hs0 : ρ[i]? = some ρ[i] := List.getElem?_eq_getElem hi
      rcases cas i _ hs0 with ⟨_, w⟩ | ⟨ho, k, sk, hk, hps, w⟩
      · rw [w] at h
        rw [Option.some.inj h] at hs0
        obtain ⟨v0, a1, a2⟩ := rel.val i d p hs0
        exact ⟨v0, a1, Rep.mono c.ext _ _ a2⟩
      · cases q : ρ[i] with
        | non => rw [q] at hs0; rw [notO hs0 (fun _ _ z => by cases z)] at ho; cases ho
        | val d0 p0 => rw [q] at hs0; rw [notO hs0 (fun _ _ z => by cases z)] at ho; cases ho
        | own o0 p0 =>
          rw [q] at hs0 w
          obtain ⟨hk0, w0, w1, w2⟩ := slotK hs0 hk
          rw [w] at h
          cases sk with
          | non => cases h
          | own o3 p3 => cases h
          | val d3 p3 =>
            cases h
            obtain ⟨v0, a1, a2⟩ := c.rel.val k _ _ hps
            rw [List.getElem?_map, w1] at a1
            have : w0 = v0 := by
              have z : some w0 = some v0 := Option.some.inj a1
              exact Option.some.inj z
            subst this
            exact ⟨w0, w2, a2⟩
    · obtain ⟨o0, h0⟩ := kpB.back h
      rcases cas i _ h0 with ⟨nl, w⟩ | ⟨ho, k, sk, hk, hps, w⟩
      · rw [w] at h; cases h
        obtain ⟨l, a1, a2, a3⟩ := rel.own i o1 p1 h0
        have hlA : ¬ Own ps (vs.map some) l := fun ⟨k, o2, p2, b1, b2⟩ => by
          obtain ⟨r, q1, q2⟩ := hg k _ b1
          obtain ⟨x, x1, x2⟩ := hr.get q1
          rw [List.getElem?_map, x1] at b2
          have ex' : x = .ref l := by
            have : some x = some (V.ref l) := Option.some.inj b2
            exact Option.some.inj this
          subst ex'
          cases r with
          | val d => cases q2
          | new o' =>
            obtain ⟨l', e1, _, _, n⟩ := x2
            cases e1
            exact n ⟨i, o1, p1, h0, a1⟩
          | own m =>
            simp only [toSl] at q2
            split at q2
            · rename_i o3 p3 h3
              have : m = i := rel.sep m i o3 p3 o1 p1 l h3 h0 x2.1 a1
              subst this
              have w1 := nl k q1
              rw [isO h0] at w1
              cases w1
            · cases q2
            · cases q2
        have hls := a2.some
        refine ⟨l, a1, a2.mono ?_ c.ext, c.nb l hls a3 hlA⟩
        cases q : H l with
        | none => exact absurd q hls
        | some u => exact c.kp l u q hlA (a2.ntb q)
      · obtain ⟨hk0, w0, w1, w2⟩ := slotK h0 hk
        rw [w] at h
        cases sk with
        | non => simp only [backSl] at h; rcases c.keep.own k _ false hk0 with ⟨o', z⟩ | ⟨d, z⟩ <;> (rw [hps] at z; cases z)
        | val d3 p3 => cases h
        | own o3 p3 =>
          cases h
          obtain ⟨l, a1, a2, a3⟩ := c.rel.own k _ _ hps
          rw [List.getElem?_map, w1] at a1
          have : w0 = .ref l := by
            have z : some w0 = some (V.ref l) := Option.some.inj a1
            exact Option.some.inj z
          subst this
          exact ⟨l, w2, a2, a3⟩
    · obtain ⟨o1', a'⟩ := kpB.back a
      obtain ⟨o2', b'⟩ := kpB.back b
      exact rel.sep i j o1' p1 o2' p2 l a' b' d f
    · exact c.kp a u (s.kp a u h n m) (nOwnA a (by rw [h]; simp) n) m
    · have h1 : H a ≠ none := fun q => h (s.al a q)
      exact c.nb a h1 (s.nb a h h' n) (nOwnA a h n)
    · exact s.ow p a (kpB.ownF_sub z)
  refine ⟨st, kpB, ?_⟩
  have cr := c.res
  have cf := c.fresh
  cases o with
  | val d => exact cr
  | new ob =>
    obtain ⟨l, rfl, a1, a2, a3⟩ := cr
    refine ⟨l, rfl, a1, a2, fun z => ?_⟩
    exact (rel.own_some (kpB.own_sub z)).1 (cf l rfl)
theorem tE_call {F : Fn} {fs : List SE} {E : XK} (w : tE K (sCall F fs) σ H Q) : tA K fs σ H fun vs H1 => spI K F vs H1 Q E := by
  obtain ⟨ρ, Hb, rel, w⟩ := w
  refine ⟨ρ, Hb, rel, ?_⟩
  simp only [sCall] at w
  cases e1 : evs fs ρ with
  | bad => simp only [e1, Rs.bind_bad] at w; exact w.elim
  | ok rs ρ1 =>
  simp only [e1, Rs.bind_ok] at w
  intro vs H1 Hb1 s1 k1 r1 f1 a1
  cases e2 : toSls ρ1 rs with
  | none => simp only [e2, Rs.opt_none] at w; exact w.elim
  | some ps =>
  simp only [e2, Rs.opt_some] at w
  by_cases nt : noTwice (lent ρ1 rs) = true
  · simp only [if_pos nt] at w
    refine ⟨ps, Hb1, args_rel s1.rel r1 a1 e2 nt, ?_⟩
    cases e3 : F ps with
    | bad => simp only [e3] at w; exact w.elim
    | ok o ps' =>
      simp only [e3] at w
      intro v H2 Hb2 c
      obtain ⟨st, kp, ra⟩ := call_back s1 r1 f1 e2 nt c
      exact w v H2 Hb2 st (k1.trans kp) ra (c.fresh.back s1)
  · simp only [if_neg nt] at w
    exact w.elim
end
end Sa

namespace Sa
open PySem L2 PySem.Spec PyProof.Rows
open Evl (Ex)

/-- a def keeps its promise, where no repr is under way -/
structure FnG (P : Program) (w : World) (K : Fg) (mg : Str → Option Value) (base : Heap) (k : Nat) (f : Addr) (fd : FuncData) (ps : List Str) (sp : Sp) : Prop where
  len : ∀ vs H Q E, sp vs H Q E → vs.length = ps.length
  run : ∀ (A : Around) (outer : List Env) (s : Shared) (H : Hp) (args : Args) (us : List Value) (vs : List V) (Q : VK), Room k A → A.guards = some [] → Env0 P w K mg base A outer s H →
    BindsTo s fd args (ps.zip us) → Vals vs us → sp vs H Q E0 → codeAny (model P w) A (.call (.ref f) args) (CR CX0 outer P w H s Q E0) s

/-- where a body runs: what its rules ask -/
structure Ok (X : Cx) (k : Nat) : Prop where
  calm : X.calm = true
  nd : X.N.Nodup
  gd : X.A.guards = some []
  room : Room k X.A
  po : PassesOwn (model X.prog X.w) X.A X.env X.xe
  un : X.A.units + 64 < cLine
theorem Ok.mono {X : Cx} {j k : Nat} (h : Ok X k) (hj : j ≤ k) : Ok X j := ⟨h.calm, h.nd, h.gd, h.room.mono hj, h.po, h.un⟩
theorem Ok.blk {X : Cx} {k : Nat} (h : Ok X k) (s : Shared) (H : Hp) (scope : Scope) (cenv : Env) (fp : List Addr) : Ok (X.blk s H scope cenv fp) k := ⟨h.calm, h.nd, h.gd, h.room, PassesOwn.never, h.un⟩

section
variable {X : Cx} {k : Nat} {f : Addr} {fd : FuncData} {ps : List Str} {F : Fn} {x : Str} {p pos : Pos} {e : Expr} {es : List Expr} {fs : List SE}
theorem goes_fn {pins : List (Addr × Obj)} {σ : L2.St} {H : Hp} {s : Shared} {Q : VK} {args : Args} {us : List Value} {vs : List V} {sp : Sp} (G : FnG X.prog X.w X.K X.mg X.base k f fd ps sp) (ok : Ok X k)
    (I : Inv X pins σ H s) (hb : BindsTo s fd args (ps.zip us)) (r : Vals vs us) (h : sp vs H Q E0) : codeAny (model X.prog X.w) X.A (.call (.ref f) args) (fun r s' => match r with
      | .ok (.ret u) => EP X pins σ Q u s'
      | _ => False) s := by
  refine codeAny_mono (G.run X.A X.stack s H args us vs Q ok.room ok.gd I.env0 hb r h) fun res s' hq => ?_
  cases res with
  | error e => exact hq.elim
  | ok fl =>
    cases fl with
    | ret u => exact I.after hq
    | next => exact hq.elim
    | brk => exact hq.elim
    | cont => exact hq.elim
theorem call_fn {pins : List (Addr × Obj)} {σ : L2.St} {H : Hp} {s : Shared} {Q : VK} {us : List Value} {kw : List (Str × Value)} {ws : List Value} {vs : List V} {sp : Sp} (G : FnG X.prog X.w X.K X.mg X.base k f fd ps sp) (ok : Ok X k)
    (I : Inv X pins σ H s) (hb : BindsTo s fd ⟨us, kw⟩ (ps.zip ws)) (r : Vals vs ws) (h : sp vs H Q E0) : wpAny (model X.prog X.w) X.A (call (.ref f) us kw) (EP X pins σ Q) X.xe s := by
  refine wpAny_call (codeAny_mono (goes_fn G ok I hb r h) fun res s' hq => ?_)
  cases res with
  | error e => exact hq.elim
  | ok fl =>
    cases fl with
    | ret u => exact hq
    | next => exact hq.elim
    | brk => exact hq.elim
    | cont => exact hq.elim
/-- f(e, ..) -/
theorem pe_callG {t : TA} {sp : Sp} (G : FnG X.prog X.w X.K X.mg X.base k f fd ps sp) (ok : Ok X k) (hg : Gl X x) (hm : X.mg x = some (.ref f)) (hk : PySem.W.keepIn X.K (.ref f) = true) (hb : Binds X.K fd ps [])
    (ha : PA X (e :: es) t) (hdb : (x == ("__debug__" : Str)) = false := by decide) (he : starEach (e :: es) X.env = (false, eval e X.env) :: starEach es X.env := by rfl) (hpl : (backTo pos (starEach es X.env)).any (·.1) = false := by rfl) :
    PE X (.Call (.Name x p) (e :: es) [] pos) (fun σ H Q => t σ H fun vs H1 => sp vs H1 Q E0) := ⟨fun pins s σ H Q I h => by
  refine wpAny_Call_Name_kw (ld_glob I hg hm ?_ hdb)
  refine PySem.W.callWith_K (h₀ := X.base) I.ok.mod.kin hk (thn (ha.run pos pins s σ H _ I h) fun us s1 ⟨vs, H1, I1, r, q⟩ => ⟨I1.kIn, ?_⟩) he hpl
  have hl : (us ++ []).length = ps.length := by rw [List.append_nil, ← r.length]; exact G.len _ _ _ _ q
  have bb := hb s1 us I1.kIn hl
  rw [List.append_nil] at bb
  exact call_fn G ok I1 bb r q⟩
/-- f(k = e, ..), all in the parameters' order -/
theorem pe_callGK {kws : List Keyword} {t : TA} {sp : Sp} (G : FnG X.prog X.w X.K X.mg X.base k f fd ps sp) (ok : Ok X k) (hg : Gl X x) (hm : X.mg x = some (.ref f)) (hk : PySem.W.keepIn X.K (.ref f) = true)
    (hb : ∀ (s : Shared) (ws : List Value), ws.length = ps.length → BindsTo s fd ⟨[], ps.zip ws⟩ (ps.zip ws))
    (hkw : PK X kws t) (hall : (backToKw pos (keywordEach kws X.env)).all (·.1.isSome) = true := by rfl) (hks : (backToKw pos (keywordEach kws X.env)).filterMap (·.1) = ps := by rfl)
    (hdb : (x == ("__debug__" : Str)) = false := by decide) (hpl : ((backTo pos (starEach [] X.env)).any (·.1) || (backToKw pos (keywordEach kws X.env)).any (·.1.isNone)) = false := by rfl) :
    PE X (.Call (.Name x p) [] kws pos) (fun σ H Q => t σ H fun vs H1 => sp vs H1 Q E0) := ⟨fun pins s σ H Q I h => by
  refine wpAny_Call_Name_kw (ld_glob I hg hm ?_ hdb)
  refine PySem.W.callWith_KW0 (h₀ := X.base) I.ok.mod.kin hk hall ?_ hpl
  refine thn (hkw.run pos pins s σ H _ I h) fun ws s2 ⟨zs, H2, I2, rz, q2⟩ => ⟨I2.kIn, ?_⟩
  rw [hks]
  have hl : ws.length = ps.length := by rw [← rz.length]; exact G.len _ _ _ _ q2
  exact call_fn G ok I2 (hb s2 ws hl) rz q2⟩
abbrev DK (X : Cx) (kws : List Keyword) (fs : List SE) : Prop := PK X kws (tA X.K fs)
theorem PK.imp {kws : List Keyword} {t u : TA} (h : PK X kws t) (k : ∀ σ H Q, u σ H Q → t σ H Q) : PK X kws u := ⟨fun pos pins s σ H Q I q => h.run pos pins s σ H Q I (k σ H Q q)⟩
theorem dk_nil : DK X [] [] := PK.imp pk_nil fun σ H Q h => tA_nil h
theorem dk_cons {kws : List Keyword} {f : SE} {nm : Option Str} {kpos : Pos} (h : DE X e f) (t : DK X kws fs) : DK X (⟨nm, e, kpos⟩ :: kws) (f :: fs) := PK.imp (pk_cons h.pe t) fun σ H Q h => tA_cons h
end

/-- a def of the text at its name -/
structure Def (P : Program) (w : World) (K : Fg) (mg : Str → Option Value) (base : Heap) (k : Nat) (x : Str) (ps : List Str) (F : Fn) : Prop where
  ex : ∃ (f : Addr) (fd : FuncData), FnG P w K mg base k f fd ps (spI K F) ∧ mg x = some (.ref f) ∧ PySem.W.keepIn K (.ref f) = true ∧ Binds K fd ps [] ∧
    ∀ (s : Shared) (ws : List Value), ws.length = ps.length → BindsTo s fd ⟨[], ps.zip ws⟩ (ps.zip ws)
section
variable {X : Cx} {k : Nat} {ps : List Str} {F : Fn} {x : Str} {p pos : Pos} {e : Expr} {es : List Expr} {fs : List SE}
theorem d_call {j : Nat} (ok : Ok X k) (G : Def X.prog X.w X.K X.mg X.base j x ps F) (hj : j ≤ k) (hg : Gl X x) (ha : DA X (e :: es) fs) (hdb : (x == ("__debug__" : Str)) = false := by decide)
    (he : starEach (e :: es) X.env = (false, eval e X.env) :: starEach es X.env := by rfl) (hpl : (backTo pos (starEach es X.env)).any (·.1) = false := by rfl) : DE X (.Call (.Name x p) (e :: es) [] pos) (sCall F fs) := by
  obtain ⟨f, fd, G, hm, hk, hb, _⟩ := G.ex
  exact .of (PE.imp (pe_callG G (ok.mono hj) hg hm hk hb ha hdb he hpl) fun _ _ _ w => tE_call w)
theorem d_callK {j : Nat} {kws : List Keyword} (ok : Ok X k) (G : Def X.prog X.w X.K X.mg X.base j x ps F) (hj : j ≤ k) (hg : Gl X x) (ha : DK X kws fs)
    (hall : (backToKw pos (keywordEach kws X.env)).all (·.1.isSome) = true := by rfl) (hks : (backToKw pos (keywordEach kws X.env)).filterMap (·.1) = ps := by rfl)
    (hdb : (x == ("__debug__" : Str)) = false := by decide) (hpl : ((backTo pos (starEach [] X.env)).any (·.1) || (backToKw pos (keywordEach kws X.env)).any (·.1.isNone)) = false := by rfl) : DE X (.Call (.Name x p) [] kws pos) (sCall F fs) := by
  obtain ⟨f, fd, G, hm, hk, _, hb⟩ := G.ex
  exact .of (PE.imp (pe_callGK G (ok.mono hj) hg hm hk hb ha hall hks hdb hpl) fun _ _ _ w => tE_call w)
end

/-! ### a def from its body -/
def pin1 : Sl → Sl
  | .own o _ => .own o true
  | .val d _ => .val d false
  | .non => .non
def unp1 (s0 s : Sl) : Sl := match s0, s with
  | .own _ p, .own o _ => .own o p
  | .own _ p, .val d _ => .val d p
  | s0, _ => s0
def unp : List Sl → List Sl → List Sl
  | s0 :: ps, s :: ρ => unp1 s0 s :: unp ps ρ
  | ps, _ => ps
def fin (r : R) (ρ : Rho) : Option (NO × Rho) := match r with
  | .val d => some (.val d, ρ)
  | .new o => some (.new o, ρ)
  | .own i => match ρ[i]? with
    | some (.own o false) => some (.new o, ρ)
    | some (.own (.lst ds) true) => some (.val (.lst ds), ρ.set i (.val (.lst ds) true))
    | some (.val d _) => some (.val d, ρ)
    | _ => none
/-- np parameters, n names in all -/
def runDef (np n : Nat) (body : SS) : Fn := fun ps => if ps.length = np then
    match body (ps.map pin1 ++ List.replicate (n - np) .non) with
    | .nx ρ => .ok (.val .non) (unp ps ρ)
    | .ret r ρ => match fin r ρ with
      | some (o, ρ') => .ok o (unp ps ρ')
      | none => .bad
    | _ => .bad
  else .bad
section
variable {K : Fg} {ρ ρ0 ρ1 ρ2 ρ' : Rho} {σ σ0 σ1 σ2 σ' : L2.St} {H H0 H1 H2 H' Hb Hb0 Hb1 Hb2 Hb' : Hp}
theorem unp_get : ∀ {ps ρ : List Sl} {i : Nat}, ps.length ≤ ρ.length → (unp ps ρ).length = ps.length ∧ ∀ s0 s, ps[i]? = some s0 → ρ[i]? = some s → (unp ps ρ)[i]? = some (unp1 s0 s)
  | [], ρ, i, _ => by
    cases ρ <;> exact ⟨rfl, fun s0 s e => by simp at e⟩
  | _ :: _, [], _, h => by simp at h
  | s0 :: ps, s :: ρ, i, h => by
    obtain ⟨a, b⟩ := unp_get (ps := ps) (ρ := ρ) (i := i - 1) (by simpa using h)
    refine ⟨by simp [unp, a], fun t0 t e1 e2 => ?_⟩
    cases i with
    | zero => simp at e1 e2; subst e1; subst e2; rfl
    | succ i => exact b t0 t (by simpa using e1) (by simpa using e2)
/-- the start of a body -/
theorem start_rel {ps : List Sl} {vs : List V} {N : List Str} {np : Nat} (rel : Rel K ps (vs.map some) H Hb) (hl : ps.length = np) (hN : np ≤ N.length) : Rel K (ps.map pin1 ++ List.replicate (N.length - np) .non) (L2.start N vs) H Hb := by
  have lv : vs.length = np := by have := rel.len; rw [List.length_map] at this; omega
  have get : ∀ (i : Nat) s, (ps.map pin1 ++ List.replicate (N.length - np) Sl.non)[i]? = some s → s = .non ∨ (i < np ∧ ∃ s0, ps[i]? = some s0 ∧ s = pin1 s0) := fun i s h => by
    by_cases z : i < np
    · rw [List.getElem?_append_left (by rw [List.length_map, hl]; exact z), List.getElem?_map] at h
      cases q : ps[i]? with
      | none => rw [q] at h; cases h
      | some s0 => rw [q] at h; cases h; exact .inr ⟨z, s0, rfl, rfl⟩
    · rw [List.getElem?_append_right (by rw [List.length_map, hl]; omega), List.getElem?_replicate] at h
      split at h
      · cases h; exact .inl rfl
      · cases h
  have gv : ∀ (i : Nat), i < np → (L2.start N vs)[i]? = (vs.map some)[i]? := fun i h => by
    unfold L2.start
    rw [List.getElem?_append_left (by rw [List.length_map, lv]; exact h)]
  refine ⟨rel.ex, ?_, fun i d p h => ?_, fun i o p h => ?_, fun i j o p o' p' l a b c d => ?_, rel.nt, rel.tb⟩
  · unfold L2.start
    rw [List.length_append, List.length_map, List.length_replicate, List.length_append, List.length_map, List.length_replicate]
    omega
  · rcases get i _ h with z | ⟨z, s0, e1, e2⟩
    · cases z
    · rw [gv i z]
      cases s0 with
      | val d0 p0 => cases e2; exact rel.val i d p0 e1
      | own o0 p0 => cases e2
      | non => cases e2
  · rcases get i _ h with z | ⟨z, s0, e1, e2⟩
    · cases z
    · rw [gv i z]
      cases s0 with
      | val d0 p0 => cases e2
      | own o0 p0 => cases e2; exact rel.own i o p0 e1
      | non => cases e2
  · rcases get i _ a with z | ⟨z, s0, e1, e2⟩
    · cases z
    rcases get j _ b with z' | ⟨z', s0', e1', e2'⟩
    · cases z'
    rw [gv i z] at c
    rw [gv j z'] at d
    cases s0 with
    | val d0 p0 => cases e2
    | non => cases e2
    | own o0 p0 =>
      cases s0' with
      | val d0 p0 => cases e2'
      | non => cases e2'
      | own o1 p1 =>
        cases e2; cases e2'
        exact rel.sep i j o p0 o' p1 l e1 e1' c d
theorem pins_get {ps : List Sl} {n i : Nat} {s : Sl} (h : ps[i]? = some s) : (ps.map pin1 ++ List.replicate n Sl.non)[i]? = some (pin1 s) := by
  rw [List.getElem?_append_left (by rw [List.length_map]; exact (List.getElem?_eq_some_iff.mp h).1), List.getElem?_map, h]
  rfl
theorem start_own {ps : List Sl} {vs : List V} {N : List Str} {np : Nat} (hl : ps.length = np) (hv : vs.length = np) {p : Bool} {a : Addr} (h : OwnF (ps.map pin1 ++ List.replicate (N.length - np) .non) (L2.start N vs) p a) : p = true ∧ Own ps (vs.map some) a := by
  obtain ⟨i, o, h1, h2⟩ := h
  by_cases z : i < np
  · rw [List.getElem?_append_left (by rw [List.length_map, hl]; exact z), List.getElem?_map] at h1
    unfold L2.start at h2
    rw [List.getElem?_append_left (by rw [List.length_map, hv]; exact z)] at h2
    cases q : ps[i]? with
    | none => rw [q] at h1; cases h1
    | some s0 =>
      rw [q] at h1
      cases s0 with
      | own o0 p0 => cases h1; exact ⟨rfl, i, o, p0, q, h2⟩
      | val d p0 => cases h1
      | non => cases h1
  · rw [List.getElem?_append_right (by rw [List.length_map, hl]; omega), List.getElem?_replicate] at h1
    split at h1
    · cases h1
    · cases h1
/-- what the caller sees behind the body -/
theorem end_post {ps : List Sl} {vs : List V} {N : List Str} {np : Nat} {o : NO} {v : V} (rel : Rel K ps (vs.map some) H Hb) (hl : ps.length = np) (hN : np ≤ N.length)
    (s : Step K (ps.map pin1 ++ List.replicate (N.length - np) .non) (L2.start N vs) H Hb ρ σ H' Hb') (pn : Pin (ps.map pin1 ++ List.replicate (N.length - np) .non) (L2.start N vs) ρ σ)
    (hr : match o with | .val d => Rep K Hb' d v | .new ob => ∃ l, v = .ref l ∧ ObAt K H' Hb' l ob ∧ Hb' l = none ∧ H l = none) : CallPost K ps vs H Hb o (unp ps ρ) v H' Hb' := by
  have lv : vs.length = np := by have := rel.len; rw [List.length_map] at this; omega
  have lr : ρ.length = N.length := by rw [pn.len, List.length_append, List.length_map, List.length_replicate]; omega
  have le : ps.length ≤ ρ.length := by rw [lr, hl]; exact hN
  have gv : ∀ (i : Nat), i < np → (L2.start N vs)[i]? = (vs.map some)[i]? := fun i h => by
    unfold L2.start
    rw [List.getElem?_append_left (by rw [List.length_map, lv]; exact h)]
  have ug := fun i => unp_get (ps := ps) (ρ := ρ) (i := i) le
  -- a slot behind
  have beh : ∀ (i : Nat) s0, ps[i]? = some s0 → i < np ∧ ∃ s1, ρ[i]? = some s1 ∧ (unp ps ρ)[i]? = some (unp1 s0 s1) := fun i s0 h => by
    have hi : i < ps.length := (List.getElem?_eq_some_iff.mp h).1
    have e : ρ[i]? = some ρ[i] := List.getElem?_eq_getElem (by omega)
    exact ⟨by omega, _, e, (ug i).2 _ _ h e⟩
  have ownB : ∀ (i : Nat) o0 p0, ps[i]? = some (.own o0 p0) → σ[i]? = (vs.map some)[i]? ∧ ((∃ o1, ρ[i]? = some (.own o1 true) ∧ (unp ps ρ)[i]? = some (.own o1 p0)) ∨ ∃ d1, ρ[i]? = some (.val d1 true) ∧ (unp ps ρ)[i]? = some (.val d1 p0)) := fun i o0 p0 h => by
    obtain ⟨z, s1, e1, e2⟩ := beh i _ h
    obtain ⟨a, b⟩ := pn.own i o0 (pins_get h)
    refine ⟨b.trans (gv i z), ?_⟩
    rcases a with ⟨o1, a⟩ | ⟨d1, a⟩
    · rw [a] at e1; cases e1; exact .inl ⟨o1, a, e2⟩
    · rw [a] at e1; cases e1; exact .inr ⟨d1, a, e2⟩
  have valB : ∀ (i : Nat) d0 p0, ps[i]? = some (.val d0 p0) → (unp ps ρ)[i]? = some (.val d0 p0) := fun i d0 p0 h => by
    obtain ⟨z, s1, e1, e2⟩ := beh i _ h
    exact e2
  have nonB : ∀ (i : Nat), ps[i]? = some .non → (unp ps ρ)[i]? = some .non := fun i h => by
    obtain ⟨z, s1, e1, e2⟩ := beh i _ h
    exact e2
  have len : (unp ps ρ).length = ps.length := (ug 0).1
  have front : ∀ (i : Nat) s, (unp ps ρ)[i]? = some s → ∃ s0, ps[i]? = some s0 := fun i s h => by
    have hi : i < ps.length := by rw [← len]; exact (List.getElem?_eq_some_iff.mp h).1
    exact ⟨_, List.getElem?_eq_getElem hi⟩
  have keep : Keep ps (unp ps ρ) := ⟨len, nonB, valB, fun i o0 p0 h => by
    rcases (ownB i o0 p0 h).2 with ⟨o1, _, w⟩ | ⟨d1, _, w⟩
    · exact .inl ⟨o1, w⟩
    · exact .inr ⟨d1, w⟩⟩
  have notOwn : ∀ a, ¬ Own ps (vs.map some) a → ¬ Own (ps.map pin1 ++ List.replicate (N.length - np) .non) (L2.start N vs) a := fun a n z => by
    obtain ⟨p, z⟩ := z.f
    exact n (start_own hl lv z).2
  have relE : Rel K (unp ps ρ) (vs.map some) H' Hb' := by
    refine ⟨s.rel.ex, by rw [len]; exact rel.len, fun i d p h => ?_, fun i o1 p h => ?_, fun i j o1 p1 o2 p2 l a b c d => ?_, s.rel.nt, s.rel.tb⟩
    · obtain ⟨s0, h0⟩ := front i _ h
      cases s0 with
      | non => rw [nonB i h0] at h; cases h
      | val d0 p0 =>
        rw [valB i d0 p0 h0] at h; cases h
        obtain ⟨w, a, b⟩ := rel.val i d p h0
        exact ⟨w, a, Rep.mono s.ext _ _ b⟩
      | own o0 p0 =>
        obtain ⟨eσ, c⟩ := ownB i o0 p0 h0
        rcases c with ⟨o1, _, w⟩ | ⟨d1, r1, w⟩
        · rw [w] at h; cases h
        · rw [w] at h; cases h
          obtain ⟨x, a, b⟩ := s.rel.val i d true r1
          exact ⟨x, by rw [← eσ]; exact a, b⟩
    · obtain ⟨s0, h0⟩ := front i _ h
      cases s0 with
      | non => rw [nonB i h0] at h; cases h
      | val d0 p0 => rw [valB i d0 p0 h0] at h; cases h
      | own o0 p0 =>
        obtain ⟨eσ, c⟩ := ownB i o0 p0 h0
        rcases c with ⟨o2, r1, w⟩ | ⟨d1, r1, w⟩
        · rw [w] at h; cases h
          obtain ⟨x, a, b⟩ := s.rel.own i _ true r1
          exact ⟨x, by rw [← eσ]; exact a, b⟩
        · rw [w] at h; cases h
    · obtain ⟨o1', a'⟩ := keep.back a
      obtain ⟨o2', b'⟩ := keep.back b
      exact rel.sep i j o1' p1 o2' p2 l a' b' c d
  refine ⟨relE, s.ext, fun a u h n m => s.kp a u h (notOwn a n) m, fun a h h' n => s.nb a h h' (notOwn a n), s.al, keep, ?_, ?_⟩
  · cases o with
    | val d => exact hr
    | new ob =>
      obtain ⟨l, rfl, a, b, c⟩ := hr
      refine ⟨l, rfl, a, b, fun z => ?_⟩
      exact (rel.own_some (keep.own_sub z)).1 c
  · cases o with
    | val d => trivial
    | new ob =>
      obtain ⟨l, rfl, a, b, c⟩ := hr
      intro l' e
      cases e
      exact c
/-- the body's promise, from its semantics -/
theorem run_ok {ps : List Str} {N : List Str} {np : Nat} {body : SS} {vs : List V} {Q : VK} {E : XK} (hN : np ≤ N.length) (h : spI K (runDef np N.length body) vs H Q E) : tS K body { nx := fun _ H' => Q .non H', rt := Q } (L2.start N vs) H := by
  obtain ⟨pl, Hb, rel, w⟩ := h
  simp only [runDef] at w
  by_cases hl : pl.length = np
  · simp only [if_pos hl] at w
    have lv : vs.length = np := by have := rel.len; rw [List.length_map] at this; omega
    refine ⟨_, Hb, start_rel rel hl hN, ?_⟩
    cases e : body (pl.map pin1 ++ List.replicate (N.length - np) .non) with
    | bad => simp only [e] at w
    | brk ρ => simp only [e] at w
    | cnt ρ => simp only [e] at w
    | nx ρ =>
      simp only [e] at w
      exact fun σ' H' Hb' s pn => w .non H' Hb' (end_post rel hl hN s pn rfl)
    | ret r ρ =>
      simp only [e] at w
      intro v σ' H' Hb' s pn rr rf
      cases e2 : fin r ρ with
      | none => simp only [e2] at w
      | some q =>
        obtain ⟨o, ρ2⟩ := q
        simp only [e2] at w
        cases r with
        | val d => cases e2; exact w v H' Hb' (end_post rel hl hN s pn rr)
        | new ob =>
          cases e2
          obtain ⟨l, rfl, a, b, c⟩ := rr
          exact w _ H' Hb' (end_post rel hl hN s pn ⟨l, rfl, a, b, rf l rfl⟩)
        | own i =>
          simp only [fin] at e2
          cases q : ρ[i]? with
          | none => simp only [q] at e2; cases e2
          | some sl =>
            obtain ⟨r1, r2⟩ := rr
            match sl, q with
            | .non, q => simp only [q] at e2; cases e2
            | .val d p, q =>
              simp only [q] at e2; cases e2
              obtain ⟨x, a, b⟩ := s.rel.val i d p q
              rw [r1] at a; cases a
              exact w v H' Hb' (end_post rel hl hN s pn b)
            | .own ob false, q =>
              simp only [q] at e2; cases e2
              obtain ⟨l, a, b, c⟩ := s.rel.own i ob false q
              rw [r1] at a; cases a
              refine w _ H' Hb' (end_post rel hl hN s pn ⟨l, rfl, b, c, ?_⟩)
              rcases s.ow false l ⟨i, ob, q, r1⟩ with z | z
              · exact absurd (start_own hl lv z).1 (by simp)
              · exact z.2
            | .own (.lst ds) true, q =>
              simp only [q] at e2
              have ef : frz (.own i) ρ = some (.lst ds, ρ.set i (.val (.lst ds) true)) := by simp only [frz, q]
              cases e2
              obtain ⟨Hb2, s2, k2, x2, rp, _, _⟩ := frz_ok s (show ResAt K ρ σ' H' Hb' (.own i) v from ⟨r1, r2⟩) rf ef
              exact w v H' Hb2 (end_post rel hl hN s2 (pn.trans k2.pin) rp)
  · simp only [if_neg hl] at w
end
end Sa

namespace Sa
open PySem L2 PySem.Spec PyProof.Rows
open Evl (Ex)

/-! ## Defs of the text; the law's end -/
/-- the place of a body -/
abbrev bX (P : Program) (w : World) (K : Fg) (mg : Str → Option Value) (base : Heap) (N : List Str) (qual : Str) (st : Stmt) (f : Addr) (cdv : Value) (A : Around) (outer : List Env) (s : Shared) (H : Hp) : Cx :=
  (cxOf CX0 P w K mg base N qual (defScope st) f cdv A outer s H E0).nox
section
variable {P : Program} {w : World} {K : Fg} {mg : Str → Option Value} {base : Heap}
theorem spI_len {F : Fn} {n : Nat} (hF : ∀ ps, ps.length ≠ n → F ps = .bad) : ∀ vs H Q E, spI K F vs H Q E → vs.length = n := fun vs H Q E ⟨pl, Hb, rel, q⟩ => by
  by_cases z : pl.length = n
  · have := rel.len
    rw [List.length_map] at this
    omega
  · rw [hF pl z] at q
    exact q.elim
theorem run_len {np n : Nat} {body : SS} : ∀ ps, ps.length ≠ np → runDef np n body ps = .bad := fun ps h => if_neg h
/-- a def whose body does what `body` says -/
theorem fnG_of {x qual : Str} {st : Stmt} {f : Addr} {fd : FuncData} {N ps : List Str} {k : Nat} {body : SS} (F : L2.Fun K x qual st f fd) (S : FnScope N ps (defScope st))
    (hb : ∀ (cdv : Value) (A : Around) (outer : List Env) (s : Shared) (H : Hp), Ok (bX P w K mg base N qual st f cdv A outer s H) k → DSs (bX P w K mg base N qual st f cdv A outer s H) (defBody st) body) :
    FnG P w K mg base (k + 1) f fd ps (spI K (runDef ps.length N.length body)) := by
  obtain ⟨oc, od, kV, doc, pm, an, cdv, ct, osl, rfl, lk, hcd⟩ := F.ex
  have hpl : ps.length ≤ N.length := by
    have q := congrArg List.length S.pre
    rw [List.length_take] at q
    omega
  refine ⟨spI_len run_len, fun A outer s H args us vs Q hr hgd e0 bnd r hsp => ?_⟩
  have hl : vs.length = ps.length := spI_len run_len _ _ _ _ hsp
  have KX : K.In s.heap := e0.mod.kin.keeps fun b o e => (e0.bs b o e).1
  have lim : s.heap.NoLimit := e0.mod.nolimit.keeps fun b o e => (e0.bs b o e).1
  have kinds : ∀ y ∈ ps.zip us, (defScope st).names.lookup y.1 = some .local ∨ ((defScope st).names.lookup y.1 = some .cell ∧ ((cellsFrom (s.heap.objs.size + 1) (defScope st).names []).lookup y.1).isSome = true) := by
    rintro ⟨n, v⟩ hy
    cases S.par n (List.of_mem_zip hy).1 with
    | inl q => exact .inl q
    | inr q => exact .inr ⟨q, PySem.W.cellsFrom_some _ _ _ (.inl q)⟩
  refine codeAny_call_function hr.depth (KX _ _ lk) rfl S.co S.gen rfl (PySem.W.codeRec_of KX hcd) (bnd _ _ _ _ ?_)
  refine wpAny_newFunctionEnv_cells S.kind kinds fun env he s1 x1 => ?_
  subst he
  refine ⟨lim.keeps x1.toInCall.keep, codeAny_func ?_⟩
  have hd := hr.deeper (envOfC qual (defScope st) s.heap.objs.size f cdv)
  have ok : Ok (bX P w K mg base N qual st f cdv A outer s H) k := ⟨rfl, S.nd, hgd, hd, PassesOwn.never, hd.units⟩
  have J := inv_start (CX := CX0) (P := P) (w := w) (E := E0) S hr.hd e0 hl r x1
  have hs := (hb cdv A outer s H ok).nox
  refine wpAny_mono (hs.run [] s1 _ H _ J (run_ok (ps := ps) hpl hsp)) (fun fl s2 h2 => ?_) fun e s2 h2 => h2
  have back : ∀ {σ2 : L2.St} {H2 : Hp} {v : V} {u : Value}, Inv (cxOf CX0 P w K mg base N qual (defScope st) f cdv A outer s H E0) [] σ2 H2 s2 → RelV v u → Q v H2 → CE outer P w H s Q u s2 :=
    fun {σ2 H2 v u} J rv q => ⟨v, H2, J.os, J.bare, J.base, J.hok, rv, q⟩
  cases fl with
  | next =>
    obtain ⟨σ2, H2, J, q⟩ := h2
    exact back (v := V.non) (u := Value.none) J rfl q
  | ret u =>
    obtain ⟨v, σ2, H2, J, rv, q⟩ := h2
    exact back J rv q
  | brk =>
    obtain ⟨_, _, _, q⟩ := h2
    exact q.elim
  | cont =>
    obtain ⟨_, _, _, q⟩ := h2
    exact q.elim
/-- under its name -/
theorem def_of {x : Str} {st : Stmt} {f : Addr} {fd : FuncData} {N ps : List Str} {k : Nat} {body : SS} (F : L2.Fun K x x st f fd) (hm : mg x = some (.ref f)) (S : FnScope N ps (defScope st))
    (b1 : ∀ (kV doc pm : Value) (an : Option Addr) (cdv ct : Value) (us : List Value), us.length = ps.length → bindArgs (PySem.W.fnOf x x (defArgs st) (defBody st) (defScope st) .none kV doc pm an cdv ct) ⟨us, []⟩ = pure (ps.zip us))
    (b2 : ∀ (kV doc pm : Value) (an : Option Addr) (cdv ct : Value) (us : List Value), us.length = ps.length → bindArgs (PySem.W.fnOf x x (defArgs st) (defBody st) (defScope st) .none kV doc pm an cdv ct) ⟨[], ps.zip us⟩ = pure (ps.zip us))
    (hb : ∀ (cdv : Value) (A : Around) (outer : List Env) (s : Shared) (H : Hp), Ok (bX P w K mg base N x st f cdv A outer s H) k → DSs (bX P w K mg base N x st f cdv A outer s H) (defBody st) body) :
    Def P w K mg base (k + 1) x ps (runDef ps.length N.length body) := by
  have G := fnG_of (P := P) (w := w) (mg := mg) (base := base) F S hb
  refine ⟨f, fd, G, hm, F.kp, F.binds b1, fun s ws hl => ?_⟩
  obtain ⟨oc, od, kV, doc, pm, an, cdv, ct, osl, rfl, lk, hcd⟩ := F.ex
  exact .of_eq (b2 kV doc pm an cdv ct ws hl)
end

theorem tbls_one {K : Fg} {x : Str} {c P : Addr} (e : lamDefs = [x]) (h : PySem.W.tabIn K x = some (c, P)) : tbls K = [(P, (x ++ ".<locals>.") ++ "<lambda>")] := by
  unfold tbls
  rw [e, List.flatMap_cons, List.flatMap_nil, List.append_nil, h]
theorem rep_ints (K : Fg) (H : Hp) : ∀ l : List Int, RepL K H (l.map D.int) (l.map V.int)
  | [] => rfl
  | i :: l => ⟨_, _, rfl, rfl, rep_ints K H l⟩
/-- the law's call: its def is run at the script, one table of code objects is known, and empty -/
theorem law_goes {P : Program} {w : World} {K : Fg} {mg mb : Str → Option Value} {k : Nat} {fa a c T : Addr} {fd : FuncData} {x y : Str} {F : Fn} {s1 : Shared} {us : List Value} {ns : List Int} (eL : lamDefs = [y]) (eT : PySem.W.tabIn K y = some (c, T))
    (KX : K.In s1.heap) (hns : s1.heap.Ns mainGlobals mg) (hb : s1.heap.Ns builtinsNs mb) (hbb : ∀ x : Str, x ≠ "__name__" → mb x = bootBuiltins x) (hlim : s1.heap.NoLimit) (hg : s1.gens = #[])
    (hC : PySem.W.CodeHd s1.heap c T) (hT : s1.heap.get? T = some { cls := .none, data := .fields #[] }) (nT : K.lookup T = none) (hbm : ∃ (bm : Addr) (ob : Obj), mg "__builtins__" = some (.ref bm) ∧ bm ≠ builtinsNs ∧ s1.heap.get? bm = some ob ∧ ob.cls = .type "module" ∧ ob.dict = some builtinsNs ∧ ob.data = .plain)
    (ha : s1.heap.get? a = some { cls := .type "list", data := .seq us.toArray }) (hi : IntsAre us ns) (hl : ns.length ≤ sizeLine) (hr : Room k callerA)
    (G : ∀ base : Heap, K.In base → base.Ns mainGlobals mg → LamX.TabB base mg c T → FnG P w K mg base k fa fd [x] (spI K F)) (hbind : ∀ (s : Shared) (u : Value), BindsTo s fd ⟨[u], []⟩ [(x, u)])
    (hF : ∃ ps', F [.val (.lst (ns.map D.int)) false] = .ok (.val (.bl true)) ps') :
    codeAny (model P w) callerA (.call (.ref fa) ⟨[.ref a], []⟩) (fun r s' => r = .ok (.ret (.bool true)) ∧ OldK s1.heap s'.heap ∧ s'.os = s1.os ∧ AllBare s'.gens) s1 := by
  have rv : Vals (ns.map V.int) us := vals_ints hi
  have aT : a ≠ T := fun z => by
    rw [z, hT] at ha
    exact absurd (congrArg Obj.data (Option.some.inj ha)) (fun q => by cases q)
  have main : ∀ H : Hp, H T = some (.tbl #[]) → (∀ b, b ≠ T → H b = none ∨ b = a ∧ ∃ o xs, H b = some (.frz o (.lst xs))) → SqL K H a (ns.map V.int) → HOk P w H s1.heap → (H a ≠ none → K.lookup a = none) →
      codeAny (model P w) callerA (.call (.ref fa) ⟨[.ref a], []⟩) (fun r s' => r = .ok (.ret (.bool true)) ∧ OldK s1.heap s'.heap ∧ s'.os = s1.os ∧ AllBare s'.gens) s1 := by
    intro H hHT hO hS hok hK
    have bare : ∀ {b : Addr} {o : Obj}, s1.heap.get? b = some o → (∀ us n, o.data ≠ .seq us n) → o.data ≠ .fields #[] → (hidT s1.heap H).get? b = some o := fun {b o} e n1 n2 => hidT_get e (by
      by_cases z : b = T
      · subst z; rw [hT] at e; cases e; exact absurd rfl n2
      · rcases hO b z with q | ⟨q, _⟩
        · exact q
        · subst q; rw [ha] at e; cases e; exact absurd rfl (n1 _ _))
    have nsB : ∀ {b : Addr} {m : Str → Option Value}, s1.heap.Ns b m → (hidT s1.heap H).Ns b m := fun {b m} ⟨o, es, ep, e, d, r⟩ => ⟨o, es, ep, bare e (fun us n z => by rw [d] at z; cases z) (fun z => by rw [d] at z; cases z), d, r⟩
    have kB : K.In (hidT s1.heap H) := fun b o e => hidT_get (KX b o e) (by
      by_cases z : b = T
      · subst z; rw [nT] at e; cases e
      · cases q : H b with
        | none => rfl
        | some u =>
          have w : b = a := (hO b z).elim (fun y => by rw [q] at y; cases y) fun y => y.1
          subst w
          rw [hK (by rw [q]; simp)] at e; cases e)
    obtain ⟨mc, l1, l2⟩ := hlim
    have md : Mod K mg (hidT s1.heap H) := ⟨kB, nsB hns, ⟨mb, nsB hb, hbb⟩, ⟨mc, nsB l1, l2⟩⟩
    have env : Env0 P w K mg (hidT s1.heap H) callerA [] s1 H := ⟨rfl, md, fun b o e => of_hidT e, Nat.le_of_eq (hidT_size _ _), trivial, fun b z => absurd (show b ∈ ([] : List Addr) from z) (by simp), hok, .of_eq hg⟩
    have tabB : LamX.TabB (hidT s1.heap H) mg c T := by
      refine ⟨?_, ?_, fun z => ?_⟩
      · obtain ⟨o, us, file, tf, fl, tg, inF, tx, tt, e1, r1, r2, r3, rest⟩ := hC
        exact ⟨o, us, file, tf, fl, tg, inF, tx, tt, bare e1 (fun _ _ z => by rw [r2] at z; cases z) (fun z => by rw [r2] at z; cases z; simp at r3), r1, r2, r3, rest⟩
      · obtain ⟨bm, ob, b1, b2, b3, b4, b5, b6⟩ := hbm
        refine ⟨bm, ob, b1, b2, fun z => ?_, fun z => ?_, bare b3 (fun _ _ z => by rw [b6] at z; cases z) (fun z => by rw [b6] at z; cases z), b4, b5, b6⟩
        · obtain ⟨o, _, _, e, q, _⟩ := hns
          rw [z, e] at b3; cases b3
          rw [q] at b6; cases b6
        · rw [z, hT] at b3; cases b3; cases b6
      · obtain ⟨o, _, _, e, q, _⟩ := hns
        rw [z, hT] at e; cases e; cases q
    have tabs : LamX.Tabs (tbls K) H := by
      rw [tbls_one eL eT]
      intro p hp
      obtain rfl := List.mem_singleton.mp hp
      exact LamX.TabS.nil hHT
    have rel : Rel K [.val (.lst (ns.map D.int)) false] ([V.ref a].map some) H (cl H) := by
      refine ⟨cl_ex (Ex.refl _), rfl, fun i d p h => ?_, fun i o p h => ?_, fun i j o p o' p' l h => ?_, cl_nt, tabs⟩
      · cases i with
        | zero => cases h; exact ⟨_, rfl, a, _, rfl, cl_l hS, rep_ints K _ ns⟩
        | succ i => cases h
      · cases i with
        | zero => cases h
        | succ i => cases h
      · cases i with
        | zero => cases h
        | succ i => cases h
    obtain ⟨ps', hF⟩ := hF
    have sp : spI K F [V.ref a] H (fun v _ => v = .bl true) E0 := ⟨_, cl H, rel, by
      rw [hF]
      exact fun v H' Hb' c => c.res⟩
    refine codeAny_mono ((G _ kB (nsB hns) tabB).run callerA [] s1 H ⟨[.ref a], []⟩ [.ref a] [.ref a] _ hr rfl env (hbind s1 (.ref a)) (.cons rfl .nil) sp) fun r s2 h => ?_
    cases r with
    | error e => exact (show False from h).elim
    | ok fl =>
      cases fl with
      | next => exact False.elim h
      | brk => exact False.elim h
      | cont => exact False.elim h
      | ret u =>
        obtain ⟨v, H2, os, bare2, un, hok2, r2, q⟩ := h
        have q : v = .bl true := q
        subst q
        obtain rfl : u = Value.bool true := r2
        have stay : ∀ b o, b ≠ T → s1.heap.get? b = some o → s2.heap.get? b = some o := fun b o nb e => by
          rcases hO b nb with z | ⟨_, ob, xs, z⟩
          · exact un.keep b o e z (fun m => by cases m) (by simp)
          · obtain ⟨e1, _⟩ := hok b _ z
            obtain ⟨e2, _⟩ := hok2 b _ (un.frzs b ob _ z)
            rw [e] at e1; cases e1
            exact e2
        obtain ⟨more, at2⟩ : ∃ more : Array Value, s2.heap.get? T = some { cls := .none, data := .fields more } := by
          obtain ⟨more, z⟩ := un.tbls T #[] hHT
          exact ⟨_, hok2 T _ z⟩
        refine ⟨rfl, ⟨fun b o e => ?_, fun b o e => ?_⟩, os, bare2⟩
        · by_cases nb : b = T
          · subst nb
            rw [hT] at e; cases e
            exact .inr (.inl ⟨(hC.tab hT).isCodeTable, rfl, #[], more, rfl, by rw [Array.empty_append]; exact at2⟩)
          · exact .inl (stay b o nb e)
        · by_cases nb : b = T
          · subst nb; exact ⟨_, at2⟩
          · exact ⟨o, stay b o nb e⟩
  cases hk : K.lookup a with
  | none =>
    let H1 : Hp := fun b => if b = T then some (.tbl #[]) else if b = a then some (.frz { cls := .type "list", data := .seq us.toArray } (.lst (ns.map V.int))) else none
    have atT : H1 T = some (.tbl #[]) := if_pos rfl
    have at1 : H1 a = some (.frz { cls := .type "list", data := .seq us.toArray } (.lst (ns.map V.int))) := (if_neg aT).trans (if_pos rfl)
    have off : ∀ b, b ≠ T → b ≠ a → H1 b = none := fun b z1 z2 => (if_neg z1).trans (if_neg z2)
    refine main H1 atT (fun b z => ?_) (.inl (.inr ⟨_, at1⟩)) (fun b u z => ?_) fun _ => hk
    · by_cases e : b = a
      · subst e; exact .inr ⟨rfl, _, _, at1⟩
      · exact .inl (off b z e)
    · by_cases e1 : b = T
      · subst e1
        rw [atT] at z; cases z
        exact hT
      · by_cases e : b = a
        · subst e
          rw [at1] at z; cases z
          exact ⟨ha, by rw [List.length_map]; exact hl, us, _, rv, ha⟩
        · rw [off b e1 e] at z; cases z
  | some o =>
    have e := KX a o hk
    rw [ha] at e; cases e
    let H1 : Hp := fun b => if b = T then some (.tbl #[]) else none
    have atT : H1 T = some (.tbl #[]) := if_pos rfl
    have off : ∀ b, b ≠ T → H1 b = none := fun b z1 => if_neg z1
    refine main H1 atT (fun b z => .inl (off b z)) (.inr ⟨_, us.toArray, _, hk, rfl, rfl, rfl, by rw [List.size_toArray, hi.length]; exact hl, by simpa using rv⟩) (fun b u z => ?_) fun z => absurd (off a aT) z
    by_cases e1 : b = T
    · subst e1
      rw [atT] at z; cases z
      exact hT
    · rw [off b e1] at z; cases z

/-- the goal behind the head, from the law's def -/
theorem law_walk {l : PySem.W.OpenLaw} {n k : Nat} {q : Program} {loose : List Str} {XP : (Str → Option Value) → Heap → Prop} {YP : World → Heap → Prop} {d dr : DefRec} {K : Params → Fg} {x y : Str} {F : Fn} (eL : lamDefs = [y]) (hrec : (recsOf q).find? (fun e => e.name == y) = some dr)
    (hn : l.most = some n) (hn2 : n ≤ sizeLine) (hdf : d.params.defaults = []) (hr : Room k callerA) (hY : ∀ (w : World) (h : Heap), YP w h → (K w.params).In h)
    (G : ∀ (w : World) (mg : Str → Option Value) (fa : Addr) (h : Heap), (K w.params).In h → h.Ns mainGlobals mg → mg d.name = some (.ref fa) →
      ∃ (fd : FuncData) (c T : Addr), PySem.W.tabIn (K w.params) y = some (c, T) ∧ (K w.params).lookup T = none ∧ (∀ (s : Shared) (u : Value), BindsTo s fd ⟨[u], []⟩ [(x, u)]) ∧
        ∀ base : Heap, (K w.params).In base → base.Ns mainGlobals mg → LamX.TabB base mg c T → FnG l.prog w (K w.params) mg base k fa fd [x] (spI (K w.params) F))
    (hF : ∀ ns : List Int, ns.length ≤ n → ∃ ps', F [.val (.lst (ns.map D.int)) false] = .ok (.val (.bl true)) ps') :
    PySem.W.WalkO q loose XP YP l.row.toRowW d [] (fun f vs => PySem.call f vs) := by
  refine Att.attach_call hn hdf fun w s0 s1 mg mb fa o pm cd doc a us ns GR Y ho hd hcd hmg hobj hints hlen hgens => ?_
  have KX := hY w _ Y
  obtain ⟨fd, c, T, eT, nT, hbi, hG⟩ := G w mg fa _ KX GR.T.g hmg
  obtain ⟨hC, hT⟩ := PySem.W.tab_of GR.T KX hrec eT
  exact law_goes eL eT KX GR.T.g GR.T.b GR.T.builtins GR.T.nolimit hgens hC hT nT GR.T.bmain hobj hints (Nat.le_trans hlen hn2) hr hG hbi (hF ns hlen)
end Sa

namespace Sa
open PySem L2 PySem.Spec PyProof.Rows
open Evl (Ex)

/-! ## repr, isinstance, is None, in, (x,) * k -/
mutual
/-- no text of it is longer -/
def D.rsz : D → Nat
  | .non => 4
  | .bl _ => 5
  | .int i => if i.natAbs < 10 ^ 12 then 13 else 100001
  | .str s => if (s.cps.toList.all fun c => decide (c < 16 ^ 8)) = true then 10 * s.length + 2 else 100001
  | .tup ds => D.rszs ds + 2 * ds.length + 3
  | .lst ds => D.rszs ds + 2 * ds.length + 3
def D.rszs : List D → Nat
  | [] => 0
  | d :: ds => D.rsz d + D.rszs ds
end
theorem pys_len : ∀ ds : List D, (D.pys ds).length = ds.length
  | [] => rfl
  | d :: ds => by simp only [D.pys, List.length_cons, pys_len ds]
theorem shownAll_len : ∀ ds : List PyData, (PyData.shownAll ds).length = ds.length
  | [] => rfl
  | d :: ds => by simp only [PyData.shownAll, List.length_cons, shownAll_len ds]
mutual
theorem rsz_shown : ∀ d : D, d.rsz ≤ 100000 → d.py.shown.length ≤ d.rsz ∧ d.py.showable = true ∧ d.py.hasDict = false
  | .non, _ => ⟨by show (PyData.none.shown).length ≤ 4; exact Nat.le_of_eq rfl, rfl, rfl⟩
  | .bl b, _ => ⟨by cases b <;> (show _ ≤ 5; decide), rfl, rfl⟩
  | .int i, h => by
    simp only [D.rsz] at h ⊢
    split at h
    · rename_i hi
      rw [if_pos hi]
      refine ⟨PyData.shown_int_le hi, ?_, rfl⟩
      show decide (i.natAbs.log2 < 1920) = true
      refine decide_eq_true ?_
      by_cases z : i.natAbs = 0
      · rw [z]; decide
      · refine (Nat.log2_lt z).mpr (Nat.lt_of_lt_of_le hi ?_)
        exact Nat.le_trans (by decide : 10 ^ 12 ≤ 2 ^ 40) (Nat.pow_le_pow_right (by decide) (by decide))
    · omega
  | .str s, h => by
    simp only [D.rsz] at h ⊢
    split at h
    · rename_i hi
      rw [if_pos hi]
      refine ⟨?_, rfl, rfl⟩
      show (PyData.shown (.str s)).length ≤ _
      rw [PyData.shown_str]
      exact StrLaws.reprText_len s fun c hc => of_decide_eq_true (List.all_eq_true.mp hi c hc)
    · omega
  | .tup ds, h => by
    simp only [D.rsz] at h ⊢
    obtain ⟨a, b, c⟩ := rszs_shown ds (by omega)
    refine ⟨?_, by simpa only [D.py, PyData.showable] using b, by simpa only [D.py, PyData.hasDict] using c⟩
    simp only [D.py, PyData.shown]
    have q := tupleText_len_le (PyData.shownAll (D.pys ds))
    rw [shownAll_len, pys_len] at q
    omega
  | .lst ds, h => by
    simp only [D.rsz] at h ⊢
    obtain ⟨a, b, c⟩ := rszs_shown ds (by omega)
    refine ⟨?_, by simpa only [D.py, PyData.showable] using b, by simpa only [D.py, PyData.hasDict] using c⟩
    simp only [D.py, PyData.shown]
    have q := listText_len_le (PyData.shownAll (D.pys ds))
    rw [shownAll_len, pys_len] at q
    omega
theorem rszs_shown : ∀ ds : List D, D.rszs ds ≤ 100000 → ((PyData.shownAll (D.pys ds)).map (·.length)).sum ≤ D.rszs ds ∧ PyData.showableAll (D.pys ds) = true ∧ PyData.hasDictAll (D.pys ds) = false
  | [], _ => ⟨Nat.le_refl _, rfl, rfl⟩
  | d :: ds, h => by
    simp only [D.rszs] at h ⊢
    obtain ⟨a, b, c⟩ := rsz_shown d (by omega)
    obtain ⟨a', b', c'⟩ := rszs_shown ds (by omega)
    refine ⟨?_, ?_, ?_⟩
    · simp only [D.pys, PyData.shownAll, List.map_cons, List.sum_cons]; omega
    · simp only [D.pys, PyData.showableAll, b, b', Bool.and_self]
    · simp only [D.pys, PyData.hasDictAll, c, c', Bool.or_self]
end
def nRepr : NOp
  | [d] => guard' (decide (d.rsz ≤ 100000) && decide (d.py.depth ≤ 60)) (.val (.str d.py.shown))
  | _ => none
def rReprD (K : Fg) : List V → Hp → VK → Prop := on1 fun x H Q => ∃ d : PyData, Dp K H x d ∧ d.showable = true ∧ d.hasDict = false ∧ d.depth ≤ 60 ∧ d.shown.length ≤ sizeLine ∧ Q (.str d.shown) H
section
variable {X : Cx}
theorem cr_repr {k : Nat} (ok : Ok X k) : CallR X (.builtin "repr") (rReprD X.K) := by
  intro pins s σ H xs us Q I r h
  obtain ⟨x, rfl, d, dp, hs, hd, hu, hz, q⟩ := h
  obtain ⟨u, rfl, ru⟩ := r.one
  have un := ok.un
  have big : ∀ {a : Addr}, u = .ref a → wpAny (model X.prog X.w) X.A (call (.builtin "repr") [u]) (EP X pins σ Q) X.xe s := fun {a} e => by
    obtain ⟨as, rd⟩ := Dp.reads I d x u dp ru
    subst e
    exact repr_of_reads' rd hs (fun z => by rw [hd] at z; cases z) ok.gd (by omega) (fun _ _ e => e) (fun h' t tk kk => ⟨.str d.shown, H, I.kept kk, ⟨t, rfl⟩, q⟩) hz
  cases dp with
  | non =>
    cases (show u = Value.none from ru)
    exact PySem.P.repr_of_none ⟨.str _, H, I.tok _, ⟨_, rfl⟩, q⟩
  | bl b =>
    cases (show u = Value.bool b from ru)
    exact PySem.P.repr_of_bool ⟨.str _, H, I.tok _, ⟨_, rfl⟩, by cases b <;> exact q⟩
  | int i =>
    obtain ⟨t, e⟩ := (show ∃ t, u = Value.int i t from ru)
    subst e
    exact PySem.P.repr_of_int (of_decide_eq_true hs) ⟨.str _, H, I.tok _, ⟨_, rfl⟩, q⟩
  | str z =>
    obtain ⟨t, e⟩ := (show ∃ t, u = Value.str z t from ru)
    subst e
    rw [PyData.shown_str] at hz q
    exact PySem.P.repr_of_str ⟨.str _, H, I.tok _, ⟨_, rfl⟩, q⟩ hz
  | lst a b => exact big (show u = _ from ru)
  | tup a b => exact big (show u = _ from ru)
end
section
variable {K : Fg}
theorem n_repr : NatR K (rReprD K) nRepr := ⟨fun ds vs H Hb out Q ex h e k => by
  unfold nRepr at e
  split at e
  · rename_i d
    obtain ⟨hz, rfl⟩ := guard_some e
    obtain ⟨x, rfl, a⟩ := h.one
    obtain ⟨h1, h2⟩ := Bool.and_eq_true_iff.mp hz
    obtain ⟨q1, q2, q3⟩ := rsz_shown d (of_decide_eq_true h1)
    refine ⟨x, rfl, d.py, Rep.dp _ _ (a.full ex), q2, q3, of_decide_eq_true h2, ?_, k.dat ex rfl⟩
    exact Nat.le_trans q1 (Nat.le_trans (of_decide_eq_true h1) (by decide))
  · cases e⟩

/-! ### isinstance -/
def D.ty : D → String
  | .non => "NoneType" | .bl _ => "bool" | .int _ => "int" | .str _ => "str" | .tup _ => "tuple" | .lst _ => "list"
def nIsi (T : String) : NOp
  | [d] => (kitB d.ty T).map fun b => .val (.bl b)
  | _ => none
theorem Rep.ty {H : Hp} {d : D} {v : V} (h : Rep K H d v) : TyX K H v (.type d.ty) := by
  cases d with
  | non => rw [show v = _ from h]; exact .base .non
  | bl b => rw [show v = _ from h]; exact .base (.bl b)
  | int b => rw [show v = _ from h]; exact .base (.int b)
  | str b => rw [show v = _ from h]; exact .base (.str b)
  | tup ds =>
    obtain ⟨a, xs, rfl, h1, _⟩ := h
    rcases h1 with (z | ⟨o, z⟩) | ⟨o, its, n, z, c, _⟩
    · exact .base (.tup z)
    · exact .fTuple z
    · exact .kTuple z c
  | lst ds =>
    obtain ⟨a, xs, rfl, h1, _⟩ := h
    rcases h1 with (z | ⟨o, z⟩) | ⟨o, its, n, z, c, _⟩
    · exact .base (.lst z)
    · exact .base (.frz z)
    · exact .kList z c
theorem n_isi {T : String} : NatR K (on1 fun x H Q => rIsi K [x, .ty T] H Q) (nIsi T) := ⟨fun ds vs H Hb out Q ex h e k => by
  unfold nIsi at e
  split at e
  · rename_i d
    obtain ⟨x, rfl, a⟩ := h.one
    cases q : kitB d.ty T with
    | none => rw [q] at e; cases e
    | some b =>
      rw [q] at e; cases e
      exact ⟨x, rfl, x, .ty T, .type d.ty, .type T, b, rfl, .ty T, (a.full ex).ty, kit_ty q, k.dat ex rfl⟩
  · cases e⟩

/-! ### is None -/
def nIsN2 : NOp
  | [d, .non] => some (.val (.bl d.isNon))
  | _ => none
def nNotN2 : NOp
  | [d, .non] => some (.val (.bl (!d.isNon)))
  | _ => none
abbrev rIsN2 : R2 := fun x y H Q => y = .non ∧ Q (.bl (decide (x = .non))) H
abbrev rNotN2 : R2 := fun x y H Q => y = .non ∧ Q (.bl (!decide (x = .non))) H
theorem n_isN2 : NatR K (on2 rIsN2) nIsN2 := ⟨fun ds vs H Hb out Q ex h e k => by
  unfold nIsN2 at e
  split at e
  · cases e
    obtain ⟨x, y, rfl, a, b⟩ := h.two
    exact ⟨x, y, rfl, b.non, by rw [a.isN]; exact k.dat ex rfl⟩
  · cases e⟩
theorem n_notN2 : NatR K (on2 rNotN2) nNotN2 := ⟨fun ds vs H Hb out Q ex h e k => by
  unfold nNotN2 at e
  split at e
  · cases e
    obtain ⟨x, y, rfl, a, b⟩ := h.two
    exact ⟨x, y, rfl, b.non, by rw [a.isN]; exact k.dat ex rfl⟩
  · cases e⟩

/-! ### in -/
def nIn : NOp
  | [a, .lst ds] => guard' (a.shp && (D.lst ds).shp) (.val (.bl (ds.any fun z => z.eqv a)))
  | _ => none
def nNotIn : NOp
  | [a, .lst ds] => guard' (a.shp && (D.lst ds).shp) (.val (.bl (!ds.any fun z => z.eqv a)))
  | _ => none
theorem pys_any (f : PyData → Bool) : ∀ ds : List D, (D.pys ds).any f = ds.any fun d => f d.py
  | [] => rfl
  | d :: ds => by simp only [D.pys, List.any_cons, pys_any f ds]
theorem n_in : NatR K (on2 (rInD K)) nIn := ⟨fun ds vs H Hb out Q ex h e k => by
  unfold nIn at e
  split at e
  · rename_i d ds
    obtain ⟨hz, rfl⟩ := guard_some e
    obtain ⟨x, y, rfl, a, b⟩ := h.two
    obtain ⟨h1, h2⟩ := Bool.and_eq_true_iff.mp hz
    refine ⟨x, y, rfl, d.py, D.pys ds, Rep.dp _ _ (a.full ex), Rep.dp (.lst ds) _ (b.full ex), h1, h2, ?_⟩
    rw [pys_any]
    exact k.dat ex rfl
  · cases e⟩
theorem n_notIn : NatR K (on2 (rNotInD K)) nNotIn := ⟨fun ds vs H Hb out Q ex h e k => by
  unfold nNotIn at e
  split at e
  · rename_i d ds
    obtain ⟨hz, rfl⟩ := guard_some e
    obtain ⟨x, y, rfl, a, b⟩ := h.two
    obtain ⟨h1, h2⟩ := Bool.and_eq_true_iff.mp hz
    refine ⟨x, y, rfl, d.py, D.pys ds, Rep.dp _ _ (a.full ex), Rep.dp (.lst ds) _ (b.full ex), h1, h2, ?_⟩
    rw [pys_any]
    exact k.dat ex rfl
  · cases e⟩
end
section
variable {X : Cx} {f g : SE} {e a b : Expr} {p pos q : Pos}
theorem d_isi {T : String} {x : Str} (hg : Gl X "isinstance") (hm : X.mg "isinstance" = none) (hgT : Gl X x) (hmT : X.mg x = none) (hv : bootBuiltins x = some (.type T)) (ha : DE X e f)
    (hx : x ≠ "__name__" := by decide) (hdx : (x == ("__debug__" : Str)) = false := by decide) (he : starEach [e, .Name x q] X.env = (false, eval e X.env) :: starEach [.Name x q] X.env := by rfl) (he2 : starEach [.Name x q] X.env = (false, eval (.Name x q) X.env) :: starEach [] X.env := by rfl)
    (hpl : (backTo pos (starEach [.Name x q] X.env)).any (·.1) = false := by rfl) :
    DE X (.Call (.Name "isinstance" p) [e, .Name x q] [] pos) (sNat (nIsi T) [f]) := .of (PE.imp (pe_callB call_isi hg hm (by decide +kernel) (pa_cons ha.pe (pa_cons (pe_bltn (v := .ty T) hgT hmT hv rfl hx hdx) pa_nil he2) he) (by decide) (by decide) he hpl) fun _ _ _ w => nat1 n_isi w)
end

/-! ### a tuple, k times -/
def nRep : NOp
  | [.tup ds, .int k] => guard' (decide (1 ≤ k) && decide (k ≤ 1000) && !ds.isEmpty && decide (ds.length ≤ 1000)) (.val (.tup (List.replicate k.toNat ds).flatten))
  | _ => none
end Sa

namespace Sa
open PySem L2 PySem.Spec PyProof.Rows
open Evl (Ex)
/-! ## sorted(set(xs)) -/
/-- an empty set as it is laid -/
abbrev fsO (w : World) : Obj := { cls := .type "set", dict := none, data := .set #[] 0 (.fresh 0 0 (!w.params.followText "set-order")) }
section
variable {P : Program} {w : World} {A : Around} {E : Value → Shared → Prop} {s : Shared}
theorem set_fromL {l : Addr} {items : Array Value} (ns : List Int) {Q : Value → Shared → Prop} (quiet : A.handled = none) (isl : s.heap.IsList l items) (its0 : IntsAre items.toList ns) (few : ns.length + 1 < scanBound)
    (h : ∀ (h' : Heap) (tk c : Nat), SetR w h' s.heap.objs.size (fun j => decide (j ∈ ns)) c → c ≤ ns.length → (∀ b o, s.heap.get? b = some o → h'.get? b = some o) → Q (.ref s.heap.objs.size) { s with heap := h', toks := tk }) :
    wpAny (model P w) A (call (.type "set") [.ref l]) Q E s := by
  have nsz : items.size = ns.length := by
    have q := IntsAre.length its0
    rw [Array.length_toList] at q
    exact q
  obtain ⟨c, tl, qmro⟩ := F.called_set.mro
  have qmade := F.called_set.made
  have qsub := F.called_set.sub
  refine wpAny_call (codeAny_of_tree ?_)
  show wpAny _ _ (callAny (.type "set") _) _ _ _
  refine wpAny_pure ⟨Code.quiet_builtin _ (by decide +kernel), codeAny_builtin F.entry_type_call ?_⟩
  rw [Around.under_plain (weight_type_call_type "set" [.ref l] []) rfl]
  have p1 := F.called_set.notType
  have p2 := F.called_set.canCreate
  have qct := F.typeCall_set_1 (.ref l)
  repeat (any_goals (first | assumption | wp_step))

  refine codeAny_mono (code_set_led1 (.ref l) (E := E) (Q₁ := fun obj s₁ => obj = .ref s.heap.objs.size ∧ s₁ = { s with heap := s.heap.push (fsO w) }) ⟨rfl, rfl⟩) fun r s₁ back => ?_
  cases r with
  | error e => exact back
  | ok fl =>
    cases fl with
    | ret obj =>
      obtain ⟨rfl, rfl⟩ := back
      have aS : (s.heap.push (fsO w)).get? s.heap.objs.size = some (fsO w) := Heap.get?_push_size _ rfl
      have aT : Shared.TypeIs { s with heap := s.heap.push (fsO w) } (.ref s.heap.objs.size) "set" := ⟨_, aS, rfl⟩
      have qli := F.called_set.init.lookup
      have qbi := F.called_set.init.bind (.ref s.heap.objs.size)
      repeat (any_goals (first | assumption | wp_step))

      refine codeAny_mono (codeAny_call_builtin (R := wants (fun r s₂ => r = .none ∧ ∃ h' tk c, s₂ = { s with heap := h', toks := tk } ∧ SetR w h' s.heap.objs.size (fun j => decide (j ∈ ns)) c ∧ c ≤ ns.length ∧
          (∀ b o, s.heap.get? b = some o → h'.get? b = some o)) E) F.called_set.init.plain F.entry_set_init (check_set_init_1 aT ?_)) fun r₂ s₂ back₂ => ?_
      · obtain ⟨ol, gol, gcl, n0, gdl⟩ := isl
        obtain ⟨cl0, dd0, dt0, sl0⟩ := ol
        simp only at gcl gdl
        subst gcl; subst gdl
        have gol' : (s.heap.push (fsO w)).get? l = some { cls := .type "list", dict := dd0, data := .seq items n0, slots := sl0 } := Heap.get?_push_of_some _ gol
        have q1s := F.sub_list_set
        have q1f := F.sub_list_frozenset
        have qne : (Value.type "list" == Value.type "dict") = false := by decide
        have gl1 : (s.heap.push (fsO w)).IsList l items := ⟨_, gol', rfl, n0, rfl⟩
        unfold Builtin.«set.__init__» noKeywords Builtin.Frozenset.updateFrom
        generalize hitr : pyIter = itr
        wp_walk
        subst hitr

        refine wpAny_pyIter_list gl1 ?_
        refine wpAny_bind (wpAny_runValue ?_)
        have ltS : l < s.heap.objs.size := Heap.lt_size gol
        have un3 : A.in1.in1.in1.handled = none := by simp [quiet]
        have sz1 : (s.heap.push (fsO w)).objs.size = s.heap.objs.size + 1 := Heap.size_push ..
        have neI : l ≠ (s.heap.push (fsO w)).objs.size := by
          rw [Heap.size_push]; exact Nat.ne_of_lt (Nat.lt_succ_of_lt ltS)
        have apS : s.heap.objs.size ∉ [(s.heap.push (fsO w)).objs.size, l] := by
          rw [Heap.size_push]; simp only [List.mem_cons, List.mem_singleton, List.not_mem_nil, or_false, not_or]
          exact ⟨Nat.ne_of_lt (Nat.lt_succ_self _), Nat.ne_of_gt ltS⟩
        have vat : ∀ (i : Nat) (v : Value), items[i]? = some v → ∃ k t, ns[i]? = some k ∧ v = .int k t := fun i v hv => by
          have hi : i < ns.length := by rw [← nsz]; exact (Array.getElem?_eq_some_iff.mp hv).1
          obtain ⟨t, e⟩ := PyProof.Rows.IntsAre.int_at its0 i v (by rw [Array.getElem?_toList]; exact hv)
          refine ⟨ns[i], t, List.getElem?_eq_getElem hi, ?_⟩
          rw [e, List.getD_eq_getElem?_getD, List.getElem?_eq_getElem hi] <;> rfl
        refine set_update_ints ((Walks.list un3 _ l neI items).toS) s.heap.objs.size
          apS ns nsz few vat (items.size - 0) 0 _ (by omega) (Nat.zero_le _)
          ⟨⟨_, Heap.get?_push_size _ rfl, rfl, rfl⟩, (gl1.push _)⟩ ?hS0 ?hR
        case hS0 =>
          have gets : ((s.heap.push (fsO w)).push { cls := .type "list_iterator", data := .fields #[.ref l, .int 0 0] }).get? s.heap.objs.size
              = some (fsO w) := Heap.get?_push_of_some _ aS
          exact ⟨0, Nat.le_refl 0, setR_new_at gets⟩
        case hR =>
          intro s' c' mv le' aS'
          obtain ⟨h', g2, d', tk', os'⟩ := s'
          have z1 : g2 = s.gens := mv.gens
          have z2 : d' = s.drawn := mv.drawn
          have z3 : os' = s.os := mv.os
          subst z1; subst z2; subst z3
          show wpAny _ _ _ _ _ _
          refine wpAny_pure ?_
          show wpAny _ _ (ret Value.none) _ _ _
          rw [nsz] at le'
          refine wpAny_pure ⟨rfl, h', tk', c', rfl, aS', le', fun b o e => ?_⟩
          have w0 : b < s.heap.objs.size := Heap.lt_size e
          have w1 : b ≠ s.heap.objs.size := Nat.ne_of_lt w0
          have w2 : b ≠ (s.heap.push (fsO w)).objs.size := by
            rw [Heap.size_push]; exact Nat.ne_of_lt (Nat.lt_succ_of_lt w0)
          exact mv.heap b o (by simp only [List.mem_cons, List.mem_singleton, List.not_mem_nil, or_false, not_or]; exact ⟨w1, w2⟩) (Heap.get?_push_of_some _ (Heap.get?_push_of_some _ e))

      · cases r₂ with
        | error e => exact back₂
        | ok fl₂ =>
          cases fl₂ with
          | ret r =>
            obtain ⟨rfl, h', tk, c', rfl, aS', le', keep'⟩ := back₂
            repeat (any_goals (first | assumption | wp_step))
            exact h _ _ _ aS' le' keep'
          | _ => exact back₂.elim
    | _ => exact back.elim

/-- any number of members -/
theorem set_sorted {a : Addr} {S : Int → Bool} {n : Nat} {Q : Value → Shared → Prop} (R : SetR w s.heap a S n) (quiet : A.handled = none)
    (kq : ∀ s2 p (out : Array Value) (c : Nat) (ms : List Int), (∀ b o, s.heap.get? b = some o → s2.heap.get? b = some o) → s2.gens = s.gens → s2.os = s.os → s.heap.objs.size ≤ p → s2.heap.get? p = some (seqObj "list" out c) →
      IntsAre out.toList ms → ms.Pairwise (· < ·) → (∀ k, k ∈ ms ↔ S k = true) → ms.length ≤ scanBound → Q (.ref p) s2) : wpAny (model P w) A (call (.builtin "sorted") [.ref a]) Q E s := by
  obtain ⟨o, es, ep, t, o1, ex1, d1, kinds, dst, mems, bnd, fits, cnt, ris, led⟩ := R
  refine Calls.call_function_entry kind_sorted plain_sorted entry_sorted (args_sorted1 _) ?_
  unfold Builtin.«sorted»
  refine wpAny_bind (m := checkCount "sorted" 1 1 _) (wpAny_pure ?_)
  refine wpAny_bind (collect_set (A := A.in1) quiet ⟨o, o1, ex1.1, d1⟩ fits bnd ris led fun s2 vs k2 z2 g2 os2 pm => ?_)
  have lv : vs.length = n := by rw [pm.length_eq, List.length_map, Array.length_toList]; exact cnt
  have nb : n ≤ scanBound := by
    rw [← cnt]
    have := bnd
    omega
  have iv : IntsAre vs (vs.map Builtin.Re.reRawOf) := ints_of vs fun v hv => by
    obtain ⟨e, he, q⟩ := List.mem_map.mp (pm.mem_iff.mp hv)
    obtain ⟨k, tk, r1, _⟩ := kinds e he
    exact ⟨k, tk, q.symm.trans r1⟩
  have pk : (vs.map Builtin.Re.reRawOf).Perm (es.toList.map keyOf) := by
    have q := pm.map Builtin.Re.reRawOf
    rw [List.map_map] at q
    exact q
  have sl : vs.toArray.size ≤ sizeLine := by
    rw [List.size_toArray, lv, sizeLine_eq]
    unfold scanBound at nb
    omega
  refine wpAny_bind (wpAny_newList ?_ (by simpa using sl))
  have at0 : (s2.heap.push (seqObj "list" vs.toArray 0)).get? s2.heap.objs.size = some (seqObj "list" vs.toArray 0) := Heap.get?_push_size _ rfl
  refine wpAny_bind (wpAny_holding (wpAny_call_entry slot_list_sort ⟨_, at0, rfl⟩ entry_list_sort
    (SrtO.list_sort_ord SrtO.swo_int at0 (by simpa using sl) (fun l2 => SrtO.ints_sortable iv l2) fun out r1 r2 => ⟨_, rfl, ?_⟩) (args_list_sort _)))
  obtain ⟨k1, k3, k4⟩ := SrtO.ints_out iv r1 r2
  obtain ⟨c, hc⟩ := sortedHeap_at (vs := vs) (out := out.toArray) at0
  have pn : (out.map SrtO.iv).Perm (es.toList.map keyOf) := k3.trans pk
  refine wpAny_pure ⟨_, rfl, kq _ s2.heap.objs.size out.toArray c (out.map SrtO.iv) (fun b u e => ?_) g2 os2 z2 hc (by simpa using k1) (lt_of_le_nodup _ k4 (pn.nodup_iff.mpr dst)) (fun k => by rw [pn.mem_iff, ← mems k]) ?_⟩
  · have q := k2 b u e
    have lt := Heap.lt_size q
    show (sortedHeap (s2.heap.push (seqObj "list" vs.toArray 0)) s2.heap.objs.size vs out.toArray).get? b = some u
    rw [sortedHeap_old (Nat.ne_of_lt lt) (by rw [size_push']; exact Nat.lt_succ_of_lt lt)]
    exact Heap.get?_push_of_some _ q
  · rw [pn.length_eq, List.length_map, Array.length_toList, cnt]; exact nb
end
/-- set(xs), xs a list of ints -/
def rSetIL (K : Fg) (w : World) : List V → Hp → VK → Prop := fun xs H Q => ∃ (l : Addr) (ns : List Int), xs = [V.ref l] ∧ SqL K H l (ns.map V.int) ∧ ns.length + 1 < scanBound ∧ ∀ p c, H p = none → c ≤ ns.length → Q (.ref p) (upd H p (SetO w p (fun j => decide (j ∈ ns)) c))
/-- sorted(s), s a set of ints -/
def rSrtSet (w : World) : List V → Hp → VK → Prop := fun vs H Q => ∃ (a : Addr) (S : Int → Bool) (n : Nat), vs = [V.ref a] ∧ H a = some (SetO w a S n) ∧
  ∀ (ns : List Int) (p : Addr), ns.Pairwise (· < ·) → (∀ k : Int, k ∈ ns ↔ S k = true) → H p = none → Q (.ref p) (upd H p (.lst (ns.map V.int)))
section
variable {X : Cx}
theorem cr_setIL (hc : X.calm = true) : CallR X (.type "set") (rSetIL X.K X.w) := by
  intro pins s σ H xs us Q I r h
  obtain ⟨l, ns, rfl, hl, hf, q⟩ := h
  rw [Vals.ref1 r]
  obtain ⟨its, rv, pl, hz⟩ := I.list hl
  have hn : H s.heap.objs.size = none := I.hok.fresh (Nat.le_refl _)
  refine set_fromL (P := X.prog) (w := X.w) ns (I.ok.hd hc) pl.isList (by simpa using rv.ints) hf fun h' tk c R le k => ?_
  exact ⟨.ref s.heap.objs.size, upd H s.heap.objs.size (SetO X.w s.heap.objs.size (fun j => decide (j ∈ ns)) c), I.laid (t' := tk) k (Nat.le_refl _) (setO_new R), rfl, q _ c hn le⟩
theorem cr_srtSet (hc : X.calm = true) : CallR X (.builtin "sorted") (rSrtSet X.w) := by
  intro pins s σ H vs us Q I r h
  obtain ⟨a, S, n, rfl, ha, q⟩ := h
  have R := setO_get I ha
  rw [Vals.ref1 r]
  refine set_sorted R (I.ok.hd hc) fun s2 p out c ns k g o hp hg hi hs hm hl => ?_
  have hlen : (ns.map V.int).length ≤ sizeLine := by
    rw [List.length_map, sizeLine_eq]
    unfold scanBound at hl
    omega
  have hn : H p = none := I.hok.fresh hp
  have J : Inv X pins σ (upd H p (.lst (ns.map V.int))) { s with heap := s2.heap, gens := s2.gens, drawn := s2.drawn, toks := s2.toks } :=
    I.call (ch := []) (Un.laid k hp hn) (I.hok.laid k hp ⟨hlen, out.toList, c, vals_of_ints hi, hg⟩) (by rw [g]; exact I.bare) fun _ z => nomatch z
  have e : s2 = { s with heap := s2.heap, gens := s2.gens, drawn := s2.drawn, toks := s2.toks } := by
    cases s2; cases s; cases o; rfl
  rw [e]
  exact ⟨.ref p, _, J, rfl, q ns p hs hm hn⟩
end
end Sa

namespace Sa
open PySem L2 PySem.Spec PyProof.Rows
open Evl (Ex)

/-! ## a tuple, once -/
theorem tuple_once (l : Addr) (its : Array Value) (n : Nat) (sl : Array (Option Value)) (dd : Option Addr) (u : Tok) :
    Meets (Builtin.«tuple.__mul__» ⟨[.ref l, .int 1 u], []⟩) (fun _ R s => s.heap.get? l = some { cls := .type "tuple", dict := dd, data := .seq its n, slots := sl } ∧ R (.ok (.ret (Value.ref l))) s) :=
  .of_wp fun prog w A R s h => by
    obtain ⟨hp, g, d, tk, os⟩ := s
    obtain ⟨hl, h⟩ := h
    have f1 := AutoSeq1.idx_int
    wp_walk using wpAny_loadPart' hl
    repeat (first
      | (refine wpAny_ite_false (decide_eq_false (by decide)) ?_; wp_walk using wpAny_loadPart' hl)
      | (refine wpAny_ite_true (by simp) ?_; wp_walk using wpAny_loadPart' hl))
    exact ⟨_, rfl, h⟩
def rRep1 (K : Fg) : R2 := fun x y H Q => ∃ l xs, x = .ref l ∧ y = .int 1 ∧ SqT K H l xs ∧ Q (.ref l) H
theorem op_rep1 {X : Cx} : OpR X (binaryOp .Mult) (rRep1 X.K) := by
  intro pins s σ H x y v u Q I rx ry h
  obtain ⟨l, xs, rfl, rfl, hT, q⟩ := h
  cases rx
  obtain ⟨t, rfl⟩ := ry
  obtain ⟨its, r, ⟨⟨cls, dd, data, sl⟩, ho, hc, n, hd⟩, hs⟩ := I.tuple hT
  simp only at hc hd
  subst hc hd
  refine wpAny_binaryOp_repeat_ref (T := "tuple") (U := "int") (by decide) ⟨_, ho, rfl⟩ (fun s' => typeIs_int s' 1 t) noFill_tuple_mul F.fills_int_mul F.slot_int_rmul repeat_tuple F.slot_int_index.lookup
    (call_meets F.slot_int_rmul (typeIs_int s 1 t) F.entry_int_rmul (F.args_int_rmul_2 _ _) (int_rmul_tuple 1 t l its.toArray n dd sl)
      ⟨ho, rfl, ⟨_, ho, rfl⟩, call_meets F.slot_tuple_mul ⟨_, ho, rfl⟩ F.entry_tuple_mul (F.args_tuple_mul_2 _ _) (tuple_once l its.toArray n sl dd t) ⟨ho, ?_⟩⟩)
  exact ⟨.ref l, H, I, rfl, q⟩
abbrev rRepX (K : Fg) : R2 := Sa.ror (rRepT K) (rRep1 K)
theorem op_repX {X : Cx} : OpR X (binaryOp .Mult) (rRepX X.K) := OpR.ror op_repT op_rep1
theorem n_rep {K : Fg} : NatR K (on2 (rRepX K)) nRep := ⟨fun ds vs H Hb out Q ex h e k => by
  unfold nRep at e
  split at e
  · rename_i ds j
    obtain ⟨hz, rfl⟩ := guard_some e
    obtain ⟨hz, h4⟩ := Bool.and_eq_true_iff.mp hz
    obtain ⟨hz, h3⟩ := Bool.and_eq_true_iff.mp hz
    obtain ⟨h1, h2⟩ := Bool.and_eq_true_iff.mp hz
    have h1 := of_decide_eq_true h1
    have h2 := of_decide_eq_true h2
    have h3 : ds.isEmpty = false := by simpa using h3
    have h4 := of_decide_eq_true h4
    obtain ⟨x, y, rfl, a, b⟩ := h.two
    obtain ⟨l, xs, rfl, a1, a2⟩ := a.tup ex
    have e := b.int
    subst e
    refine ⟨_, _, rfl, ?_⟩
    by_cases z : j = 1
    · subst z
      refine .inr ⟨l, xs, rfl, rfl, a1, ?_⟩
      refine k.dat ex ?_
      have e1 : (List.replicate (1 : Int).toNat ds).flatten = ds := by
        show (List.replicate 1 ds).flatten = ds
        simp
      rw [e1]
      exact a.rep (fun _ => by simp)
    · refine .inl ⟨l, j, xs, rfl, rfl, a1, ?_, by omega, h2, by rw [← a2.len]; exact h4, fun p hp => ?_⟩
      · intro e
        rw [e] at a2
        cases ds with
        | nil => simp at h3
        | cons d ds => obtain ⟨_, _, e, _⟩ := a2; cases e
      · refine k.tu ex hp ?_
        generalize j.toNat = m
        induction m with
        | zero => rfl
        | succ m ih =>
          rw [List.replicate_succ, List.replicate_succ, List.flatten_cons, List.flatten_cons]
          exact a2.app ih
  · cases e⟩
end Sa

namespace Sa
open PySem L2 PySem.Spec PyProof.Rows
open Evl (Ex)

/-! ## sorted(set(xs)): ints, tuples of ints -/
def insI (x : Int) : List Int → List Int
  | [] => [x]
  | y :: l => if x < y then x :: y :: l else if x = y then y :: l else y :: insI x l
def setI : List Int → List Int
  | [] => []
  | x :: l => insI x (setI l)
theorem insI_mem {x z : Int} : ∀ {l : List Int}, z ∈ insI x l ↔ z = x ∨ z ∈ l
  | [] => by simp [insI]
  | y :: l => by
    unfold insI
    split
    · simp
    · split
      · rename_i h; subst h; simp
      · rw [List.mem_cons, insI_mem (l := l), List.mem_cons]
        constructor
        · rintro (h | h | h)
          · exact .inr (.inl h)
          · exact .inl h
          · exact .inr (.inr h)
        · rintro (h | h | h)
          · exact .inr (.inl h)
          · exact .inl h
          · exact .inr (.inr h)
theorem setI_mem {z : Int} : ∀ {l : List Int}, z ∈ setI l ↔ z ∈ l
  | [] => Iff.rfl
  | x :: l => by rw [setI, insI_mem, setI_mem (l := l), List.mem_cons]
theorem insI_pw {x : Int} : ∀ {l : List Int}, l.Pairwise (· < ·) → (insI x l).Pairwise (· < ·)
  | [], _ => List.pairwise_singleton _ _
  | y :: l, h => by
    obtain ⟨a, b⟩ := List.pairwise_cons.mp h
    unfold insI
    split
    · rename_i q
      refine List.pairwise_cons.mpr ⟨fun z hz => ?_, h⟩
      rcases List.mem_cons.mp hz with e | e
      · rw [e]; exact q
      · exact Int.lt_trans q (a z e)
    · split
      · exact h
      · refine List.pairwise_cons.mpr ⟨fun z hz => ?_, insI_pw b⟩
        rcases insI_mem.mp hz with e | e
        · omega
        · exact a z e
theorem setI_pw : ∀ l : List Int, (setI l).Pairwise (· < ·)
  | [] => .nil
  | x :: l => insI_pw (setI_pw l)
theorem pw_one {l m : List Int} (h1 : l.Pairwise (· < ·)) (h2 : m.Pairwise (· < ·)) (h : ∀ z, z ∈ l ↔ z ∈ m) : l = m := by
  have n1 : l.Nodup := h1.imp fun h => by omega
  have n2 : m.Nodup := h2.imp fun h => by omega
  exact PySem.W.ksm_same ((List.perm_ext_iff_of_nodup n1 n2).mpr h) (h1.imp fun h => by omega) (h2.imp fun h => by omega)

def lexB : List Int → List Int → Bool
  | x :: xs, y :: ys => decide (x < y) || (decide (x = y) && lexB xs ys)
  | _, _ => false
theorem lexB_irr : ∀ l : List Int, lexB l l = false
  | [] => rfl
  | x :: l => by simp [lexB, lexB_irr l]
theorem lexB_trans : ∀ {a b c : List Int}, lexB a b = true → lexB b c = true → lexB a c = true
  | [], _, _, h, _ => by simp [lexB] at h
  | _ :: _, [], _, h, _ => by simp [lexB] at h
  | _ :: _, _ :: _, [], _, h => by simp [lexB] at h
  | x :: a, y :: b, z :: c, h, g => by
    simp only [lexB, Bool.or_eq_true, Bool.and_eq_true, decide_eq_true_eq] at h g ⊢
    rcases h with h | ⟨h, h'⟩
    · rcases g with g | ⟨g, g'⟩
      · exact .inl (by omega)
      · exact .inl (by omega)
    · rcases g with g | ⟨g, g'⟩
      · exact .inl (by omega)
      · exact .inr ⟨by omega, lexB_trans h' g'⟩
def insT (x : List Int) : List (List Int) → List (List Int)
  | [] => [x]
  | y :: l => if lexB x y = true then x :: y :: l else if x = y then y :: l else y :: insT x l
def setT : List (List Int) → List (List Int)
  | [] => []
  | x :: l => insT x (setT l)
theorem insT_mem {x z : List Int} : ∀ {l : List (List Int)}, z ∈ insT x l ↔ z = x ∨ z ∈ l
  | [] => by simp [insT]
  | y :: l => by
    unfold insT
    split
    · simp
    · split
      · rename_i h; subst h; simp
      · rw [List.mem_cons, insT_mem (l := l), List.mem_cons]
        constructor
        · rintro (h | h | h)
          · exact .inr (.inl h)
          · exact .inl h
          · exact .inr (.inr h)
        · rintro (h | h | h)
          · exact .inr (.inl h)
          · exact .inl h
          · exact .inr (.inr h)
theorem setT_mem {z : List Int} : ∀ {l : List (List Int)}, z ∈ setT l ↔ z ∈ l
  | [] => Iff.rfl
  | x :: l => by rw [setT, insT_mem, setT_mem (l := l), List.mem_cons]
theorem lexB_tri : ∀ {a b : List Int}, a.length = b.length → lexB a b = true ∨ a = b ∨ lexB b a = true
  | [], [], _ => .inr (.inl rfl)
  | [], _ :: _, h => by simp at h
  | _ :: _, [], h => by simp at h
  | x :: a, y :: b, h => by
    simp only [lexB, Bool.or_eq_true, Bool.and_eq_true, decide_eq_true_eq]
    rcases Int.lt_trichotomy x y with q | q | q
    · exact .inl (.inl q)
    · subst q
      rcases lexB_tri (a := a) (b := b) (by simpa using h) with r | r | r
      · exact .inl (.inr ⟨rfl, r⟩)
      · subst r; exact .inr (.inl rfl)
      · exact .inr (.inr (.inr ⟨rfl, r⟩))
    · exact .inr (.inr (.inl q))
theorem insT_pw {d : Nat} {x : List Int} (hx : x.length = d) : ∀ {l : List (List Int)}, (∀ y ∈ l, y.length = d) → l.Pairwise (fun a b => lexB a b = true) → (insT x l).Pairwise (fun a b => lexB a b = true)
  | [], _, _ => List.pairwise_singleton _ _
  | y :: l, hd, h => by
    obtain ⟨a, b⟩ := List.pairwise_cons.mp h
    unfold insT
    split
    · rename_i q
      refine List.pairwise_cons.mpr ⟨fun z hz => ?_, h⟩
      rcases List.mem_cons.mp hz with e | e
      · rw [e]; exact q
      · exact lexB_trans q (a z e)
    · split
      · exact h
      · rename_i q1 q2
        refine List.pairwise_cons.mpr ⟨fun z hz => ?_, insT_pw hx (fun y hy => hd y (List.mem_cons_of_mem _ hy)) b⟩
        rcases insT_mem.mp hz with e | e
        · subst e
          rcases lexB_tri (a := z) (b := y) (hx.trans (hd y List.mem_cons_self).symm) with r | r | r
          · exact absurd r q1
          · exact absurd r q2
          · exact r
        · exact a z e
theorem setT_pw {d : Nat} : ∀ {l : List (List Int)}, (∀ y ∈ l, y.length = d) → (setT l).Pairwise (fun a b => lexB a b = true)
  | [], _ => .nil
  | x :: l, h => insT_pw (h x List.mem_cons_self) (fun y hy => h y (List.mem_cons_of_mem _ (setT_mem.mp hy))) (setT_pw fun y hy => h y (List.mem_cons_of_mem _ hy))
theorem lex_one : ∀ {l m : List (List Int)}, l.Pairwise (fun a b => lexB a b = true) → m.Pairwise (fun a b => lexB a b = true) → (∀ z, z ∈ l ↔ z ∈ m) → l = m
  | [], [], _, _, _ => rfl
  | [], y :: m, _, _, h => by have := (h y).mpr List.mem_cons_self; cases this
  | x :: l, [], _, _, h => by have := (h x).mp List.mem_cons_self; cases this
  | x :: l, y :: m, h1, h2, h => by
    obtain ⟨a, b⟩ := List.pairwise_cons.mp h1
    obtain ⟨a', b'⟩ := List.pairwise_cons.mp h2
    have e : x = y := by
      rcases List.mem_cons.mp ((h x).mp List.mem_cons_self) with e | e
      · exact e
      · rcases List.mem_cons.mp ((h y).mpr List.mem_cons_self) with e' | e'
        · exact e'.symm
        · have := lexB_trans (a' x e) (a y e')
          rw [lexB_irr] at this; cases this
    subst e
    congr 1
    refine lex_one b b' fun z => ⟨fun hz => ?_, fun hz => ?_⟩
    · rcases List.mem_cons.mp ((h z).mp (List.mem_cons_of_mem _ hz)) with e | e
      · subst e
        have := a z hz
        rw [lexB_irr] at this; cases this
      · exact e
    · rcases List.mem_cons.mp ((h z).mpr (List.mem_cons_of_mem _ hz)) with e | e
      · subst e
        have := a' z hz
        rw [lexB_irr] at this; cases this
      · exact e
/-- only the members count -/
theorem setI_congr {l m : List Int} (h : ∀ z, z ∈ l ↔ z ∈ m) : setI l = setI m := pw_one (setI_pw l) (setI_pw m) fun z => by rw [setI_mem, setI_mem]; exact h z
theorem setT_congr {d : Nat} {l m : List (List Int)} (h1 : ∀ y ∈ l, y.length = d) (h : ∀ z, z ∈ l ↔ z ∈ m) : setT l = setT m :=
  lex_one (setT_pw h1) (setT_pw fun y hy => h1 y ((h y).mpr hy)) fun z => by rw [setT_mem, setT_mem]; exact h z
theorem lex_of_code {B : Int} : ∀ {x y : List Int}, x.length = y.length → TS.Bd B x → TS.Bd B y → TS.code B x ≤ TS.code B y → x ≠ y → lexB x y = true
  | [], [], _, _, _, _, n => absurd rfl n
  | [], _ :: _, h, _, _, _, _ => by simp at h
  | _ :: _, [], h, _, _, _, _ => by simp at h
  | a :: x, b :: y, h, hx, hy, hc, n => by
    have hl : x.length = y.length := by simpa using h
    simp only [lexB, Bool.or_eq_true, Bool.and_eq_true, decide_eq_true_eq]
    rcases Int.lt_trichotomy a b with q | q | q
    · exact .inl q
    · subst q
      have hc' : TS.code B x ≤ TS.code B y := by
        rcases Int.lt_or_le (TS.code B y) (TS.code B x) with z | z
        · have := (TS.code_same (d := a) hl.symm).mpr z
          omega
        · exact z
      exact .inr ⟨rfl, lex_of_code hl hx.tail hy.tail hc' fun e => n (by rw [e])⟩
    · have := TS.code_lt hl.symm hy.tail hx.tail q
      omega

def D.tup? : D → Option (List Int)
  | .tup ds => D.ints? ds
  | _ => none
def D.tups? : List D → Option (List (List Int))
  | [] => some []
  | d :: ds => (D.tup? d).bind fun k => (D.tups? ds).map (k :: ·)
def dT (k : List Int) : D := .tup (k.map D.int)
theorem D.tup_eq {d : D} {k : List Int} (h : D.tup? d = some k) : d = dT k := by
  cases d with
  | tup ds => rw [D.ints_eq (show D.ints? ds = some k from h)]; rfl
  | _ => cases h
theorem D.tups_eq : ∀ {ds : List D} {ks : List (List Int)}, D.tups? ds = some ks → ds = ks.map dT
  | [], ks, h => by cases h; rfl
  | d :: ds, ks, h => by
    simp only [D.tups?] at h
    cases e : D.tup? d with
    | none => simp only [e, Option.bind_none] at h; cases h
    | some k =>
      simp only [e, Option.bind_some] at h
      cases e2 : D.tups? ds with
      | none => simp only [e2, Option.map_none] at h; cases h
      | some r =>
        simp only [e2, Option.map_some] at h
        cases h
        rw [List.map_cons, D.tup_eq e, D.tups_eq e2]
theorem D.tup_map (k : List Int) : D.tup? (dT k) = some k := D.ints_map k
theorem D.tups_map : ∀ ks : List (List Int), D.tups? (ks.map dT) = some ks
  | [] => rfl
  | k :: ks => by simp only [List.map_cons, D.tups?, D.tup_map, Option.bind_some, D.tups_map ks, Option.map_some]
def hd0 : List (List Int) → Nat
  | [] => 1
  | k :: _ => k.length
def nSortSet : NOp
  | [.lst ds] => match D.ints? ds with
    | some ns => guard' (decide (ns.length ≤ 4000)) (.new (.lst ((setI ns).map .int)))
    | none => (D.tups? ds).bind fun ks => guard' (decide (ks.length < 64) && decide (1 ≤ hd0 ks) && ks.all fun k => decide (k.length = hd0 ks) && k.all fun i => decide (0 ≤ i)) (.new (.lst ((setT ks).map dT)))
  | _ => none
abbrev rSortSet (K : Fg) (P : Program) (w : World) : List V → Hp → VK → Prop := fun xs H Q => Sa.cor (rSetIL K w) (rSetOfT K P w) xs H fun v H1 => Sa.cor (rSrtSet w) (rSortedT K P w) [v] H1 Q
section
variable {K : Fg} {H Hb H1 : Hp} {Q : VK} {p q : Addr}
/-- a list, laid behind something else -/
theorem Kont.li2 {ds : List D} {xs : List V} {o : HO} (k : Kont K H Hb (.new (.lst ds)) Q) (ex : Ex Hb H) (hp : H p = none) (hq : upd H p o q = none) (h : RepL K Hb ds xs) : Q (.ref q) (upd (upd H p o) q (.lst xs)) := by
  have ne : q ≠ p := fun e => by subst e; rw [upd_same] at hq; cases hq
  have hq' : H q = none := by rw [upd_ne ne] at hq; exact hq
  have x2 : Ex H (upd (upd H p o) q (.lst xs)) := (Ex.new hp).trans (Ex.new hq)
  exact k (.ref q) _ Hb x2 (Ex.refl _) (ex.trans x2) (fun _ _ => rfl) ⟨q, rfl, hq', ⟨xs, upd_same, h⟩, Evl.fresh_back ex hq'⟩
theorem tups_vals : ∀ {ks : List (List Int)} {xs : List V}, RepL K Hb (ks.map dT) xs → ∃ ps : List (Addr × List Int), xs = ps.map (fun p => V.ref p.1) ∧ ps.map (·.2) = ks ∧ ∀ p ∈ ps, SqT K Hb p.1 (p.2.map V.int)
  | [], _, h => ⟨[], h, rfl, fun p hp => by cases hp⟩
  | k :: ks, _, h => by
    obtain ⟨x, r, rfl, h1, h2⟩ := h
    obtain ⟨a, ys, rfl, s1, s2⟩ := h1
    obtain ⟨ps, rfl, rfl, hs⟩ := tups_vals h2
    rw [s2.ints] at s1
    exact ⟨(a, k) :: ps, rfl, rfl, fun p hp => by
      rcases List.mem_cons.mp hp with e | e
      · rw [e]; exact s1
      · exact hs p e⟩
theorem vals_tups : ∀ (ps : List (Addr × List Int)), (∀ p ∈ ps, SqT K Hb p.1 (p.2.map V.int)) → RepL K Hb (ps.map fun p => dT p.2) (ps.map fun p => V.ref p.1)
  | [], _ => rfl
  | p :: ps, h => ⟨_, _, rfl, ⟨p.1, _, rfl, h p List.mem_cons_self, RepL.of_ints _⟩, vals_tups ps fun q hq => h q (List.mem_cons_of_mem _ hq)⟩
theorem bd_of : ∀ (ks : List (List Int)), (∀ k ∈ ks, ∀ i ∈ k, (0 : Int) ≤ i) → ∃ B : Int, ∀ k ∈ ks, TS.Bd B k := by
  have one : ∀ k : List Int, ∃ B : Int, ∀ i ∈ k, i < B := by
    intro k
    induction k with
    | nil => exact ⟨0, fun i h => by cases h⟩
    | cons a k ih =>
      obtain ⟨B, hB⟩ := ih
      refine ⟨max (a + 1) B, fun i h => ?_⟩
      rcases List.mem_cons.mp h with e | e
      · omega
      · have := hB i e; omega
  intro ks
  induction ks with
  | nil => intro _; exact ⟨0, fun k h => by cases h⟩
  | cons k ks ih =>
    intro h
    obtain ⟨B, hB⟩ := ih fun k' hk => h k' (List.mem_cons_of_mem _ hk)
    obtain ⟨C, hC⟩ := one k
    refine ⟨max B C, fun k' hk i hi => ?_⟩
    have h0 := h k' hk i hi
    rcases List.mem_cons.mp hk with e | e
    · subst e
      have := hC i hi
      omega
    · have := (hB k' e i hi).2
      omega
theorem n_sortSet {P : Program} {w : World} : NatR K (rSortSet K P w) nSortSet := ⟨fun ds vs H Hb out Q ex h e k => by
  unfold nSortSet at e
  split at e
  · rename_i ds
    split at e
    · rename_i ns hns
      obtain ⟨hz, rfl⟩ := guard_some e
      rw [D.ints_eq hns] at h
      obtain ⟨x, rfl, a⟩ := h.one
      obtain ⟨l, xs, rfl, a1, a2⟩ := a.lst ex
      rw [a2.ints] at a1
      refine .inl ⟨l, ns, rfl, a1, ?_, fun p c hp hc => .inl ⟨p, _, c, rfl, upd_same, fun ms q h1 h2 hq => ?_⟩⟩
      · have := of_decide_eq_true hz
        unfold scanBound; omega
      · have e : ms = setI ns := pw_one h1 (setI_pw ns) fun z => by rw [h2, setI_mem]; simp
        rw [e]
        exact k.li2 ex hp hq (RepL.of_ints _)
    · cases hks : D.tups? ds with
      | none => rw [hks] at e; cases e
      | some ks =>
        rw [hks] at e
        obtain ⟨hz, rfl⟩ := guard_some e
        obtain ⟨hz, hall⟩ := Bool.and_eq_true_iff.mp hz
        obtain ⟨h64, hd1⟩ := Bool.and_eq_true_iff.mp hz
        have h64 := of_decide_eq_true h64
        have hd1 := of_decide_eq_true hd1
        have hall : ∀ k ∈ ks, k.length = hd0 ks ∧ ∀ i ∈ k, (0 : Int) ≤ i := fun k hk => by
          obtain ⟨p, q⟩ := Bool.and_eq_true_iff.mp (List.all_eq_true.mp hall k hk)
          exact ⟨of_decide_eq_true p, fun i hi => of_decide_eq_true (List.all_eq_true.mp q i hi)⟩
        rw [D.tups_eq hks] at h
        obtain ⟨x, rfl, a⟩ := h.one
        obtain ⟨l, xs, rfl, a1, a2⟩ := a.lst ex
        obtain ⟨ps, rfl, rfl, hs⟩ := tups_vals a2
        obtain ⟨B, hB⟩ := bd_of (ps.map (·.2)) fun k hk => (hall k hk).2
        have mem2 : ∀ p ∈ ps, p.2 ∈ ps.map (·.2) := fun p hp => List.mem_map.mpr ⟨p, hp, rfl⟩
        refine .inr ⟨l, ps, rfl, a1, fun p hp => Evl.ex_t ex (hs p hp), by simpa using h64, fun s L hp hL1 hL2 => .inr ⟨s, L, hd0 (ps.map (·.2)), B, rfl, upd_same, fun p hp' => ?_, hd1, fun p hp' => ⟨(hall _ (mem2 p (hL1 p hp'))).1, hB _ (mem2 p (hL1 p hp'))⟩, fun L' q pm nd h6 pw hq => ?_⟩⟩
        · exact Evl.ex_t (ex.trans (Ex.new hp)) (hs p (hL1 p hp'))
        · have inP : ∀ r ∈ L', r ∈ ps := fun r hr => hL1 r (pm.mem_iff.mp hr)
          have e : L'.map (·.2) = setT (ps.map (·.2)) := by
            refine lex_one ?_ (setT_pw (d := hd0 (ps.map (·.2))) fun y hy => (hall y hy).1) fun z => ?_
            · refine List.pairwise_map.mpr ?_
              have nd' := List.pairwise_map.mp nd
              refine List.Pairwise.imp_of_mem (fun {r t} hr ht hh => ?_) (pw.and nd')
              exact lex_of_code ((hall _ (mem2 r (inP r hr))).1.trans (hall _ (mem2 t (inP t ht))).1.symm) (hB _ (mem2 r (inP r hr))) (hB _ (mem2 t (inP t ht))) hh.1 hh.2
            · rw [setT_mem]
              constructor
              · intro hz
                obtain ⟨r, hr, rfl⟩ := List.mem_map.mp hz
                exact mem2 r (inP r hr)
              · intro hz
                obtain ⟨r, hr, rfl⟩ := List.mem_map.mp hz
                obtain ⟨t, ht, e⟩ := List.mem_map.mp (hL2 r hr)
                exact List.mem_map.mpr ⟨t, pm.mem_iff.mpr ht, e⟩
          rw [← e, List.map_map] at k
          exact k.li2 ex hp hq (vals_tups L' fun r hr => hs r (inP r hr))
  · cases e⟩
end
section
variable {X : Cx} {f : SE} {e : Expr} {p p2 pos pos2 : Pos} {k : Nat}
/-- sorted(set(e)) -/
theorem d_sortSet (ok : Ok X k) (hg : Gl X "sorted") (hm : X.mg "sorted" = none) (hg2 : Gl X "set") (hm2 : X.mg "set" = none) (ha : DE X e f) (he : starEach [e] X.env = (false, eval e X.env) :: starEach [] X.env := by rfl)
    (he2 : starEach [.Call (.Name "set" p2) [e] [] pos2] X.env = (false, eval (.Call (.Name "set" p2) [e] [] pos2) X.env) :: starEach [] X.env := by rfl) :
    DE X (.Call (.Name "sorted" p) [.Call (.Name "set" p2) [e] [] pos2] [] pos) (sNat nSortSet [f]) :=
  .of (PE.imp (pe_callB (CallR.cor (cr_srtSet ok.calm) (cr_sortedT ok.calm)) hg hm (by decide +kernel)
    (pa_cons (pe_callTy (CallR.cor (cr_setIL ok.calm) (cr_setOfT ok.calm ok.un)) hg2 hm2 (by decide +kernel) (pa_cons ha.pe pa_nil he) (he := he)) pa_nil he2) (he := he2)) fun σ H Q w => tE_imp (tA_cons (nat_core n_sortSet w)) fun x H1 q => tA_nil q)
end
end Sa

namespace Sa
open PySem L2 PySem.Spec PyProof.Rows
open Evl (Ex)

/-! ## list(range(..)), tuple(range(..)) -/
def okRg (a b : Int) : Bool := okR a && okR b && decide (b - a ≤ 100000)
theorem okRg_ok {a b : Int} (h : okRg a b = true) : RgOk a b := by
  unfold okRg okR at h
  simp only [Bool.and_eq_true, decide_eq_true_eq] at h
  obtain ⟨⟨⟨h1, h2⟩, h3, h4⟩, h5⟩ := h
  exact ⟨h1, h2, h3, h4, by omega⟩
def nLR1 : NOp
  | [.int n] => guard' (okRg 0 n) (.new (.lst (rangeD 0 n.toNat)))
  | _ => none
def nLR2 : NOp
  | [.int m, .int n] => guard' (okRg m n) (.new (.lst (rangeD m (n - m).toNat)))
  | _ => none
def nTR1 : NOp
  | [.int n] => guard' (okRg 0 n) (.val (.tup (rangeD 0 n.toNat)))
  | _ => none
def nTR2 : NOp
  | [.int m, .int n] => guard' (okRg m n) (.val (.tup (rangeD m (n - m).toNat)))
  | _ => none
theorem rep_rg (K : Fg) (H : Hp) (a b : Int) : RepL K H (rangeD a (b - a).toNat) (rgV a b) := by
  have e1 : rangeD a (b - a).toNat = ((List.range (b - a).toNat).map fun (i : Nat) => a + (i : Int)).map D.int := by
    unfold rangeD; rw [List.map_map]; rfl
  have e2 : rgV a b = ((List.range (b - a).toNat).map fun (i : Nat) => a + (i : Int)).map V.int := by
    unfold rgV; rw [List.map_map]; rfl
  rw [e1, e2]
  exact RepL.of_ints _
section
variable {K : Fg}
abbrev rLR1 : V → Hp → VK → Prop := fun x H Q => ∃ n, x = .int n ∧ RgOk 0 n ∧ ∀ q, H q = none → Q (.ref q) (upd H q (.lst (rgV 0 n)))
abbrev rLR2 : R2 := fun x y H Q => ∃ i j, x = .int i ∧ y = .int j ∧ RgOk i j ∧ ∀ q, H q = none → Q (.ref q) (upd H q (.lst (rgV i j)))
abbrev rTR1 : V → Hp → VK → Prop := fun x H Q => ∃ n, x = .int n ∧ RgOk 0 n ∧ ∀ q, H q = none → Q (.ref q) (upd H q (.tup (rgV 0 n)))
abbrev rTR2 : R2 := fun x y H Q => ∃ i j, x = .int i ∧ y = .int j ∧ RgOk i j ∧ ∀ q, H q = none → Q (.ref q) (upd H q (.tup (rgV i j)))
theorem sub0 (n : Int) : rangeD 0 n.toNat = rangeD 0 (n - 0).toNat := by rw [Int.sub_zero]
theorem n_lr1 : NatR K (on1 rLR1) nLR1 := ⟨fun ds vs H Hb out Q ex h e k => by
  unfold nLR1 at e
  split at e
  · obtain ⟨hz, rfl⟩ := guard_some e
    obtain ⟨x, rfl, a⟩ := h.one
    rw [sub0] at k
    exact ⟨x, rfl, _, a.int, okRg_ok hz, fun q hq => k.li ex hq (rep_rg _ _ _ _)⟩
  · cases e⟩
theorem n_lr2 : NatR K (on2 rLR2) nLR2 := ⟨fun ds vs H Hb out Q ex h e k => by
  unfold nLR2 at e
  split at e
  · obtain ⟨hz, rfl⟩ := guard_some e
    obtain ⟨x, y, rfl, a, b⟩ := h.two
    exact ⟨x, y, rfl, _, _, a.int, b.int, okRg_ok hz, fun q hq => k.li ex hq (rep_rg _ _ _ _)⟩
  · cases e⟩
theorem n_tr1 : NatR K (on1 rTR1) nTR1 := ⟨fun ds vs H Hb out Q ex h e k => by
  unfold nTR1 at e
  split at e
  · obtain ⟨hz, rfl⟩ := guard_some e
    obtain ⟨x, rfl, a⟩ := h.one
    rw [sub0] at k
    exact ⟨x, rfl, _, a.int, okRg_ok hz, fun q hq => k.tu ex hq (rep_rg _ _ _ _)⟩
  · cases e⟩
theorem n_tr2 : NatR K (on2 rTR2) nTR2 := ⟨fun ds vs H Hb out Q ex h e k => by
  unfold nTR2 at e
  split at e
  · obtain ⟨hz, rfl⟩ := guard_some e
    obtain ⟨x, y, rfl, a, b⟩ := h.two
    exact ⟨x, y, rfl, _, _, a.int, b.int, okRg_ok hz, fun q hq => k.tu ex hq (rep_rg _ _ _ _)⟩
  · cases e⟩
end
section
variable {X : Cx} {f g : SE} {a b e : Expr} {p p2 pos pos2 : Pos} {k : Nat}
theorem d_lr1 (ok : Ok X k) (hg : Gl X "list") (hm : X.mg "list" = none) (hg2 : Gl X "range") (hm2 : X.mg "range" = none) (ha : DE X a f) (h1 : starEach [a] X.env = (false, eval a X.env) :: starEach [] X.env := by rfl)
    (h2 : starEach [.Call (.Name "range" p2) [a] [] pos2] X.env = (false, eval (.Call (.Name "range" p2) [a] [] pos2) X.env) :: starEach [] X.env := by rfl) : DE X (.Call (.Name "list" p) [.Call (.Name "range" p2) [a] [] pos2] [] pos) (sNat nLR1 [f]) :=
  .of (PE.imp (pe_listRg ok.calm hg hm (prg_1 hg2 hm2 ha.pe h1) h2) fun _ _ _ w => nat1 (r := rLR1) n_lr1 w)
theorem d_lr2 (ok : Ok X k) (hg : Gl X "list") (hm : X.mg "list" = none) (hg2 : Gl X "range") (hm2 : X.mg "range" = none) (ha : DE X a f) (hb : DE X b g) (h1 : starEach [a, b] X.env = (false, eval a X.env) :: starEach [b] X.env := by rfl) (h1' : starEach [b] X.env = (false, eval b X.env) :: starEach [] X.env := by rfl) (hp2 : (backTo pos2 (starEach [b] X.env)).any (·.1) = false := by rfl)
    (h2 : starEach [.Call (.Name "range" p2) [a, b] [] pos2] X.env = (false, eval (.Call (.Name "range" p2) [a, b] [] pos2) X.env) :: starEach [] X.env := by rfl) : DE X (.Call (.Name "list" p) [.Call (.Name "range" p2) [a, b] [] pos2] [] pos) (sNat nLR2 [f, g]) :=
  .of (PE.imp (pe_listRg ok.calm hg hm (prg_2 hg2 hm2 ha.pe hb.pe h1 h1' hp2) h2) fun _ _ _ w => tE_imp (nat2 (r := rLR2) n_lr2 w) fun _ _ q => q)
theorem d_tr1 (ok : Ok X k) (hg : Gl X "tuple") (hm : X.mg "tuple" = none) (hg2 : Gl X "range") (hm2 : X.mg "range" = none) (ha : DE X a f) (h1 : starEach [a] X.env = (false, eval a X.env) :: starEach [] X.env := by rfl)
    (h2 : starEach [.Call (.Name "range" p2) [a] [] pos2] X.env = (false, eval (.Call (.Name "range" p2) [a] [] pos2) X.env) :: starEach [] X.env := by rfl) : DE X (.Call (.Name "tuple" p) [.Call (.Name "range" p2) [a] [] pos2] [] pos) (sNat nTR1 [f]) :=
  .of (PE.imp (pe_tupRg ok.calm hg hm (prg_1 hg2 hm2 ha.pe h1) h2) fun _ _ _ w => nat1 (r := rTR1) n_tr1 w)
theorem d_tr2 (ok : Ok X k) (hg : Gl X "tuple") (hm : X.mg "tuple" = none) (hg2 : Gl X "range") (hm2 : X.mg "range" = none) (ha : DE X a f) (hb : DE X b g) (h1 : starEach [a, b] X.env = (false, eval a X.env) :: starEach [b] X.env := by rfl) (h1' : starEach [b] X.env = (false, eval b X.env) :: starEach [] X.env := by rfl) (hp2 : (backTo pos2 (starEach [b] X.env)).any (·.1) = false := by rfl)
    (h2 : starEach [.Call (.Name "range" p2) [a, b] [] pos2] X.env = (false, eval (.Call (.Name "range" p2) [a, b] [] pos2) X.env) :: starEach [] X.env := by rfl) : DE X (.Call (.Name "tuple" p) [.Call (.Name "range" p2) [a, b] [] pos2] [] pos) (sNat nTR2 [f, g]) :=
  .of (PE.imp (pe_tupRg ok.calm hg hm (prg_2 hg2 hm2 ha.pe hb.pe h1 h1' hp2) h2) fun _ _ _ w => tE_imp (nat2 (r := rTR2) n_tr2 w) fun _ _ q => q)
end
end Sa

namespace Sa
open PySem L2 PySem.Spec PyProof.Rows
theorem bt_len : bootBuiltins "len" = some (.builtin "len") := by decide +kernel
theorem bt_abs : bootBuiltins "abs" = some (.builtin "abs") := by decide +kernel
theorem bt_sum : bootBuiltins "sum" = some (.builtin "sum") := by decide +kernel
theorem bt_all : bootBuiltins "all" = some (.builtin "all") := by decide +kernel
theorem bt_any : bootBuiltins "any" = some (.builtin "any") := by decide +kernel
theorem bt_max : bootBuiltins "max" = some (.builtin "max") := by decide +kernel
theorem bt_min : bootBuiltins "min" = some (.builtin "min") := by decide +kernel
theorem bt_repr : bootBuiltins "repr" = some (.builtin "repr") := by decide +kernel
theorem bt_sorted : bootBuiltins "sorted" = some (.builtin "sorted") := by decide +kernel
theorem bt_int : bootBuiltins "int" = some (.type "int") := by decide +kernel
theorem bt_bool : bootBuiltins "bool" = some (.type "bool") := by decide +kernel
theorem bt_str : bootBuiltins "str" = some (.type "str") := by decide +kernel
theorem bt_list : bootBuiltins "list" = some (.type "list") := by decide +kernel
theorem bt_tuple : bootBuiltins "tuple" = some (.type "tuple") := by decide +kernel
/-- inside a comprehension -/
theorem inBlk {a b : Prop} (h : a) (k : a → b) : b := k h
theorem Ok.un1 {X : Cx} {k : Nat} (h : Ok X k) : X.A.units + 65 < cLine := by
  have := h.room.un
  omega

/-- x = [.. for ..] on one line, x a plain local -/
theorem ds_asgLc (i : Nat) {X : Cx} {it : SI} {t : STg} {c e : SE} {sl : List Nat} {y : Str} {py spos : Pos} {elt tg iter : Expr} {ifs : List Expr} {scope : Scope} {pos : Pos} (own : List (Str × Nat)) (hc : X.calm = true) (hN : X.N.Nodup) (hi : DI X tg iter it) (ok : BlkOk X.N X.env.scope scope own)
    (hg : ∀ (s : Shared) (H : Hp) (C : Addr) (cl : List (Str × Addr)) (fp : List Addr), DG (X.blk s H scope (compEnvC scope cl C X.env) fp) tg sl t)
    (ht : ∀ (s : Shared) (H : Hp) (C : Addr) (cl : List (Str × Addr)) (fp : List Addr), PTs (X.blk s H scope (compEnvC scope cl C X.env) fp) ifs (tT X.K c))
    (he : ∀ (s : Shared) (H : Hp) (C : Addr) (cl : List (Str × Addr)) (fp : List Addr), DE (X.blk s H scope (compEnvC scope cl C X.env) fp) elt e)
    (okT : TgOk sl t) (hy : X.N[i]? = some y := by rfl) (hyl : X.env.scope.names.lookup y = some .local := by rfl)
    (hsw : swapsWith (.ListComp elt [⟨tg, iter, ifs, 0⟩] scope pos) (some (.Name y py)) spos.line X.env = pure true := by rfl)
    (hsl : ∀ j ∈ sl, j ∈ own.map (·.2) := by decide) (hs : ∀ x, foldedSetIterable iter X.env x = pure x := by intro _; rfl) : DS X (.Assign [.Name y py] (.ListComp elt [⟨tg, iter, ifs, 0⟩] scope pos) spos) (sAsg i (sComp it t c e (own.map (·.2)))) :=
  PS.imp (ps_setLc hc hN hy hyl hsw hi ok (fun s H C cl fp => (hg s H C cl fp).pg) ht (fun s H C cl fp => (he s H C cl fp).pe) hs) fun _ _ _ w => tE_comp hsl okT (tS_asg w)

/-! == of texts too -/
def nEqS : NOp
  | [.str a, .str b] => some (.val (.bl (decide (a = b))))
  | ds => nEq ds
def nNeS : NOp
  | [.str a, .str b] => some (.val (.bl (!decide (a = b))))
  | ds => nNe ds
theorem dec_strV {i j : Str} : decide (V.str i = V.str j) = decide (i = j) := decide_eq_decide.mpr ⟨fun h => by cases h; rfl, fun h => by rw [h]⟩
theorem n_eqS {K : Fg} : NatR K (on2 (Sa.ror rEq (rEqD K))) nEqS := ⟨fun ds vs H Hb out Q ex h e k => by
  unfold nEqS at e
  split at e
  · cases e
    obtain ⟨x, y, rfl, a, b⟩ := h.two
    have e1 := a.str
    have e2 := b.str
    subst e1 e2
    exact ⟨_, _, rfl, .inl ⟨rfl, by rw [dec_strV]; exact k.dat ex rfl⟩⟩
  · obtain ⟨x, y, e1, q⟩ := n_eq.run _ vs H Hb out Q ex h e k
    exact ⟨x, y, e1, .inr q⟩⟩
theorem n_neS {K : Fg} : NatR K (on2 (Sa.ror rNe (rNeD K))) nNeS := ⟨fun ds vs H Hb out Q ex h e k => by
  unfold nNeS at e
  split at e
  · cases e
    obtain ⟨x, y, rfl, a, b⟩ := h.two
    have e1 := a.str
    have e2 := b.str
    subst e1 e2
    exact ⟨_, _, rfl, .inl ⟨rfl, by rw [dec_strV]; exact k.dat ex rfl⟩⟩
  · obtain ⟨x, y, e1, q⟩ := n_ne.run _ vs H Hb out Q ex h e k
    exact ⟨x, y, e1, .inr q⟩⟩
theorem op_eqS {X : Cx} (hu : X.A.units + 64 < cLine) : OpR X (compareOp .Eq) (Sa.ror rEq (rEqD X.K)) := OpR.ror op_eq (op_eqD hu)
theorem op_neS {X : Cx} (hu : X.A.units + 64 < cLine) : OpR X (compareOp .NotEq) (Sa.ror rNe (rNeD X.K)) := OpR.ror op_ne (op_neD hu)
end Sa

namespace Sa
open PySem L2 PySem.Spec PyProof.Rows
open Evl (Ex)

/-! ## list.remove, list.extend -/
def mRemove : MOp := fun ds args => match args with
  | [.int k] => (D.ints? ds).bind fun ns => (ns.idxOf? k).map fun j => ((ns.eraseIdx j).map .int, .non)
  | _ => none
theorem m_remove {K : Fg} : MutR K rRemI mRemove := ⟨fun l xs ds args vs H Hb ds' out Q _ hl hx ha e k => by
  unfold mRemove at e
  split at e
  · rename_i i
    cases q : D.ints? ds with
    | none => rw [q] at e; cases e
    | some ns =>
      rw [q, Option.bind_some] at e
      cases q2 : ns.idxOf? i with
      | none => rw [q2] at e; cases e
      | some j =>
        rw [q2] at e; cases e
        rw [D.ints_eq q] at hx
        have hxs := hx.ints
        subst hxs
        obtain ⟨v, t, rfl, hv, ht⟩ := ha
        rw [show t = [] from ht, show v = V.int i from hv]
        obtain ⟨hj, h1, h2⟩ := List.findIdx?_eq_some_iff_getElem.mp (show ns.findIdx? (· == i) = some j from q2)
        refine ⟨l, ns, i, j, rfl, rfl, hl, ?_, fun m hm z => ?_, k _ _ (RepL.of_ints _) rfl⟩
        · rw [List.getElem?_eq_getElem hj, eq_of_beq h1]
        · obtain ⟨hm', e⟩ := List.getElem?_eq_some_iff.mp z
          have := h2 m hm
          rw [e] at this
          simp at this
  · cases e⟩

theorem ext_any (l : Addr) (its : Array Value) (n : Nat) (b : Addr) (its2 : Array Value) (n2 : Nat) (dd : Option Addr) (sl : Array (Option Value)) (hc0 : ¬(!its.isEmpty && Builtin.List.listTooLong (its.size + its2.size)) = true) (hc1 : its.size ≤ sizeLine) (hs2 : its.size + its2.size ≤ sizeLine + 1) :
    Meets (Builtin.«list.extend» ⟨[.ref l, .ref b], []⟩) (fun _ R s => s.heap.get? l = some { cls := .type "list", dict := none, data := .seq its n, slots := #[] } ∧ s.heap.get? b = some { cls := .type "list", dict := dd, data := .seq its2 n2, slots := sl } ∧ R (.ok (.ret Value.none)) { s with heap := s.heap.update l (Obj.mapSeq fun x => x ++ its2), toks := s.toks }) :=
  .of_wp fun prog w A R s h => by
    obtain ⟨hp, g, d, tk, os⟩ := s
    obtain ⟨hl, hb, h⟩ := h
    have f1 := AutoSeq1.idx_int
    have f2 := F.sub_tuple_tuple
    have f3 := F.sub_list_list
    have f4 := F.sub_tuple_list
    have f5 := F.sub_list_tuple
    have hz' : (its ++ its2).size ≤ sizeLine + 1 := by rw [Array.size_append]; exact hs2
    wp_walk using (wpAny_updateSeq hl rfl (hz := hc1) (_hz' := hz')), wpAny_loadPart' hl, wpAny_loadPart' hb
    exact ⟨_, rfl, h⟩
def rExtL (K : Fg) : V → List V → Hp → VK → Prop := fun x vs H Q => ∃ l b xs zs, x = .ref l ∧ vs = [.ref b] ∧ H l = some (.lst xs) ∧ SqL K H b zs ∧ xs.length + zs.length ≤ sizeLine ∧ Q .non (upd H l (.lst (xs ++ zs)))
theorem mt_extendX {X : Cx} : MtR X "list.extend" (rExtL X.K) := by
  intro pins s σ H x vs v us Q I rx rv h
  obtain ⟨l, b, xs, zs, rfl, rfl, hH, hB, hz, q⟩ := h
  cases rx
  obtain ⟨u, rfl, ru⟩ := rv.one
  cases ru
  obtain ⟨z, its, n, r, hl, e⟩ := I.lstM hH
  obtain ⟨its2, r2, pl, hz2⟩ := I.list hB
  have hl2 := r2.length
  obtain ⟨⟨cls, dd, data, sl⟩, e2, hc, n2, hd⟩ := pl.isList
  simp only at hc hd
  subst hc hd
  have hsz : its.toArray.size + its2.toArray.size ≤ sizeLine := by rw [List.size_toArray, List.size_toArray]; omega
  have hlong : ¬ (!its.toArray.isEmpty && Builtin.List.listTooLong (its.toArray.size + its2.toArray.size)) = true := by
    rw [notLongL hsz, Bool.and_false]
    exact Bool.false_ne_true
  refine call_meets F.slot_list_extend ⟨_, e, rfl⟩ F.entry_list_extend (F.args_list_extend_2 _ _)
    (ext_any l its.toArray n b its2.toArray n2 dd sl hlong (by rw [List.size_toArray]; omega) (by omega)) ⟨e, e2, ?_⟩
  refine ⟨.non, _, I.lset (its' := its ++ its2) hH e (by simp) (r.append r2) ?_, rfl, q⟩
  rw [List.length_append]
  omega
theorem m_extend {K : Fg} : MutR K (rExtL K) mExtend := ⟨fun l xs ds args vs H Hb ds' out Q ex hl hx ha e k => by
  unfold mExtend at e
  split at e
  · split at e
    · rename_i es hz
      cases e
      obtain ⟨v, t, rfl, h1, ht⟩ := ha
      cases (show t = [] from ht)
      obtain ⟨b, zs, rfl, hb, hr⟩ := h1
      exact ⟨l, b, xs, zs, rfl, rfl, hl, Evl.ex_l ex hb, by rw [← hx.len, ← hr.len]; exact Nat.le_of_lt (szOk_lt hz), k _ _ (hx.app hr) rfl⟩
    · cases e
  · cases e⟩
end Sa

namespace TS
open PySem PySem.Spec PyProof.Rows
section
variable {prog : Program} {w : World} {A : Around} {E : Value → Shared → Prop} {s : Shared}
/-- all items of a tuple, as a new list on the way -/
theorem collT {l : Addr} {o : Obj} {vs : List Value} {n : Nat} {Q : List Value → Shared → Prop} (ho : s.heap.get? l = some o) (hc : o.cls = .type "tuple") (hd : o.data = .seq vs.toArray n) (few : vs.length < 64)
    (k : ∀ h1 : Heap, (∀ b o', s.heap.get? b = some o' → h1.get? b = some o') → s.heap.objs.size ≤ h1.objs.size → Q vs { s with heap := h1 }) : wpAny (model prog w) A (collect (.ref l)) Q E s := by
  have few' : vs.length ≤ sizeLine := by rw [sizeLine_eq]; omega
  delta collect
  apply wpAny_bind (wpAny_runValue (codeAny_builtin F.entry_proto_collect _))
  rw [Around.under_plainId F.plain_proto_collect _]
  apply wpAny_bind (m := newList [])
  refine wpAny_newObj_type ?_
  refine wpAny_pure ⟨plainId_quiet F.plain_list_iadd _, codeAny_builtin F.entry_list_iadd ?_⟩
  have new : (s.heap.push { cls := .type "list", data := .seq ([] : List Value).toArray }).get? s.heap.objs.size = some { cls := .type "list", data := .seq #[] 0 } := Heap.get?_push_size _ rfl
  rw [Around.under_plainId F.plain_list_iadd _]
  refine wpAny_mono (wpAny_extend_seq (hsz := by simpa using few') (A := A) (R := fun r s' => r = .ok (.ret (.ref s.heap.objs.size)) ∧ s' = { s with heap := (s.heap.push { cls := .type "list", data := .seq ([] : List Value).toArray }).update s.heap.objs.size (Obj.mapSeq (· ++ vs.toArray)) })
    (s := { s with heap := s.heap.push { cls := .type "list", data := .seq ([] : List Value).toArray } }) _ l _ 0 (.inr rfl) new (Heap.get?_push_of_some _ ho) hc hd ⟨rfl, rfl⟩) (fun fin s' h => ?_) (fun e s' h => absurd h.1 (by simp))
  have fin' : wpAny (model prog w) A (match Value.ref s.heap.objs.size with
      | Value.ref a => do
        match (← load a).data with
          | Data.seq xs _ => pure xs.toList
          | _ => unsupported "internal:collect"
      | _ => unsupported "internal:collect") Q E { s with heap := (s.heap.push { cls := .type "list", data := .seq ([] : List Value).toArray }).update s.heap.objs.size (Obj.mapSeq (· ++ vs.toArray)) } := by
    refine wpAny_bind (m := load s.heap.objs.size) (wpAny_load (Heap.get?_update_self (Obj.mapSeq (· ++ vs.toArray)) new rfl) (wpAny_pure ?_))
    rw [show ((#[] : Array Value) ++ vs.toArray).toList = vs by simp]
    refine k _ (fun b o' hb => (Heap.get?_update_other _ _ (Nat.ne_of_gt (Heap.lt_size hb))).trans (Heap.get?_push_of_some _ hb)) ?_
    rw [Heap.size_update, size_push']
    exact Nat.le_succ _
  cases fin with
  | done f => obtain ⟨e, rfl⟩ := h; cases e; exact fin'
  | again c' => exact ⟨h.1, codeAny_mono h.2 fun r s'' hr => by obtain ⟨rfl, rfl⟩ := hr; exact fin'⟩
/-- what sorted leaves of a heap: all old ones, and a new list -/
theorem sortTup {l : Addr} {vs : List Value} {d : Nat} {B : Int} {Q : Value → Shared → Prop} (hl : IsTup s.heap l vs.toArray) (few : vs.length < 64) (pos : 1 ≤ d) (all : TupsOk s.heap d B vs)
    (k : ∀ (out : Array Value) (p : Addr) (h' : Heap) (n : Nat), out.toList.Perm vs → out.toList.Pairwise (fun u v => code B (intsOf s.heap u) ≤ code B (intsOf s.heap v)) → (∀ b o, s.heap.get? b = some o → h'.get? b = some o) → s.heap.objs.size ≤ p → h'.get? p = some (seqObj "list" out n) → Q (.ref p) { s with heap := h' }) :
    wpAny (model prog w) A (call (.builtin "sorted") [.ref l]) Q E s := by
  obtain ⟨o, ho, hc, n, hd⟩ := hl
  apply Calls.call_function_entry kind_sorted plain_sorted entry_sorted (args_sorted1 _)
  delta Builtin.«sorted»
  apply wpAny_bind (m := checkCount "sorted" 1 1 _)
  apply wpAny_pure
  apply wpAny_bind
  apply collT (o := o) ho hc hd (by omega)
  intro h1 keep sz
  apply wpAny_bind
  refine wpAny_newList ?_ (by rw [sizeLine_eq]; omega)
  have at1 : (h1.push (seqObj "list" vs.toArray 0)).get? h1.objs.size = some (seqObj "list" vs.toArray 0) := Heap.get?_push_size _ rfl
  have kp : ∀ b o, s.heap.get? b = some o → (h1.push (seqObj "list" vs.toArray 0)).get? b = some o := fun b o q => Heap.get?_push_of_some _ (keep b o q)
  have kp' : ∀ b o, s.heap.get? b = some o → o.cls = .type "tuple" → (h1.push (seqObj "list" vs.toArray 0)).get? b = some o := fun b o q _ => kp b o q
  show wpAny _ _ _ _ _ { s with heap := h1.push (seqObj "list" vs.toArray 0) }
  apply wpAny_bind
  apply wpAny_holding
  refine wpAny_call_entry slot_list_sort ⟨_, at1, rfl⟩ entry_list_sort (sort_tups at1 few pos (all.keeps kp') (fun v => code B (intsOf s.heap v)) (fun v hv ns t => ?_) fun out a1 a2 => ?_) (args_list_sort _)
  · obtain ⟨ns0, t0, _⟩ := all v hv
    have e : ns = ns0 := t.ints.symm.trans (t0.keeps kp').ints
    subst e
    exact congrArg (code B) t0.ints
  · refine ⟨_, rfl, wpAny_pure ⟨_, rfl, ?_⟩⟩
    obtain ⟨ep, e⟩ := sortedHeap_at (vs := vs) (out := out) at1
    refine k out _ _ ep a1 a2 (fun b o q => ?_) sz e
    have lt := Heap.lt_size (keep b o q)
    rw [sortedHeap_old (Nat.ne_of_lt lt) (by rw [size_push']; exact Nat.lt_succ_of_lt lt)]
    exact kp b o q
end
end TS
namespace L2
open PySem PySem.Spec PyProof.Rows
section
variable {X : Cx}
def rSortTT (K : PySem.W.Frag) : List V → Hp → VK → Prop := fun vs H Q => ∃ (a : Addr) (xs : List V) (d : Nat) (B : Int), vs = [V.ref a] ∧ 1 ≤ d ∧ SqT K H a xs ∧ xs.length < 64 ∧ (∀ x ∈ xs, ∃ ns, TupI K H x ns ∧ ns.length = d ∧ TS.Bd B ns) ∧
  ∀ (ys : List V) (p : Addr), ys.Perm xs → ys.Pairwise (fun x y => ∀ n m, TupI K H x n → TupI K H y m → TS.code B n ≤ TS.code B m) → H p = none → Q (.ref p) (upd H p (.lst ys))
def rSortTL (K : PySem.W.Frag) : List V → Hp → VK → Prop := fun vs H Q => ∃ (d : Nat) (B : Int), 1 ≤ d ∧ rSortU K d B vs H Q
theorem cr_sortTL : CallR X (.builtin "sorted") (rSortTL X.K) := by
  intro pins s σ H vs us Q I r h
  obtain ⟨d, B, hd, h⟩ := h
  exact cr_sortT hd _ _ _ _ _ _ _ I r h
theorem cr_sortTT : CallR X (.builtin "sorted") (rSortTT X.K) := by
  intro pins s σ H vs us Q I r h
  obtain ⟨a, xs, d, B, rfl, hd, hs, few, hx, q⟩ := h
  obtain ⟨its, rv, hl, hz⟩ := I.tuple hs
  have r1 := Vals.ref1 r
  subst r1
  obtain ⟨e1, e2⟩ := bkV_refs rv fun x m => by
    obtain ⟨ns, ⟨t, e, _⟩, _⟩ := hx x m
    exact ⟨t, e⟩
  refine TS.sortTup hl (by rw [← rv.length]; exact few) hd (d := d) (B := B) (fun v hv => ?_) fun out p h' n h1 h2 kp sz new => ?_
  · obtain ⟨t, rfl⟩ := e2 v hv
    have hm : V.ref t ∈ xs := e1 ▸ List.mem_map.mpr ⟨_, hv, rfl⟩
    obtain ⟨ns, ⟨t', e, ht⟩, hn, hb⟩ := hx _ hm
    cases e
    exact ⟨ns, tupI_raw I ht, hn, hb⟩
  · have h3 : ∀ u ∈ out.toList, ∃ a, u = Value.ref a := fun u hu => e2 u (h1.mem_iff.mp hu)
    have hp : (out.toList.map bkV).Perm xs := e1 ▸ h1.map bkV
    refine ⟨.ref _, upd H p (.lst (out.toList.map bkV)), I.laid (t' := s.toks) kp sz ⟨hp.length_eq ▸ hz, out.toList, n, bkV_vals h3, by simpa using new⟩, rfl, q _ _ hp ?_ (I.hok.fresh sz)⟩
    refine List.pairwise_map.mpr (List.Pairwise.imp (fun {u v} huv i j hi hj => ?_) h2)
    obtain ⟨t, et, ht⟩ := hi
    obtain ⟨t', et', ht'⟩ := hj
    have i1 : TS.intsOf s.heap u = i := by rw [bkV_ref et]; exact (tupI_raw I ht).ints
    have i2 : TS.intsOf s.heap v = j := by rw [bkV_ref et']; exact (tupI_raw I ht').ints
    exact i1 ▸ i2 ▸ huv
end
end L2
namespace Sa
open PySem L2 PySem.Spec PyProof.Rows
open Evl (Ex)
section
variable {K : Fg} {H Hb : Hp} {Q : VK}
/-- sorted(x): a list of numbers; a list or a tuple of tuples of numbers, alike long, none twice -/
def sT (ks : List (List Int)) : Option NO := guard' (decide (ks.length < 64) && decide (1 ≤ hd0 ks) && (decide ks.Nodup && ks.all fun k => decide (k.length = hd0 ks) && k.all fun i => decide (0 ≤ i))) (.new (.lst ((setT ks).map dT)))
def nSortX : NOp
  | [.lst ds] => match D.ints? ds with
    | some ns => some (.new (.lst ((sortI ns).map D.int)))
    | none => (D.tups? ds).bind sT
  | [.tup ds] => (D.tups? ds).bind sT
  | _ => none
theorem sT_run {ps : List (Addr × List Int)} {out : NO} (e : sT (ps.map (·.2)) = some out) : ∃ (d : Nat) (B : Int), 1 ≤ d ∧ ps.length < 64 ∧ (∀ p ∈ ps, p.2.length = d ∧ TS.Bd B p.2) ∧ out = .new (.lst ((setT (ps.map (·.2))).map dT)) ∧
    ∀ L' : List (Addr × List Int), L'.Perm ps → L'.Pairwise (fun p q => TS.code B p.2 ≤ TS.code B q.2) → L'.map (·.2) = setT (ps.map (·.2)) := by
  unfold sT at e
  obtain ⟨hz, rfl⟩ := guard_some e
  obtain ⟨hz, h2⟩ := Bool.and_eq_true_iff.mp hz
  obtain ⟨h64, hd1⟩ := Bool.and_eq_true_iff.mp hz
  obtain ⟨hnd, hall⟩ := Bool.and_eq_true_iff.mp h2
  have h64 := of_decide_eq_true h64
  have hd1 := of_decide_eq_true hd1
  have hnd := of_decide_eq_true hnd
  have hall : ∀ k ∈ ps.map (·.2), k.length = hd0 (ps.map (·.2)) ∧ ∀ i ∈ k, (0 : Int) ≤ i := fun k hk => by
    obtain ⟨p, q⟩ := Bool.and_eq_true_iff.mp (List.all_eq_true.mp hall k hk)
    exact ⟨of_decide_eq_true p, fun i hi => of_decide_eq_true (List.all_eq_true.mp q i hi)⟩
  obtain ⟨B, hB⟩ := bd_of (ps.map (·.2)) fun k hk => (hall k hk).2
  have mem2 : ∀ p ∈ ps, p.2 ∈ ps.map (·.2) := fun p hp => List.mem_map.mpr ⟨p, hp, rfl⟩
  refine ⟨hd0 (ps.map (·.2)), B, hd1, by simpa using h64, fun p hp => ⟨(hall _ (mem2 p hp)).1, hB _ (mem2 p hp)⟩, rfl, fun L' pm pw => ?_⟩
  have inP : ∀ r ∈ L', r ∈ ps := fun r hr => pm.mem_iff.mp hr
  have nd : (L'.map (·.2)).Nodup := (pm.map (·.2)).nodup_iff.mpr hnd
  refine lex_one ?_ (setT_pw (d := hd0 (ps.map (·.2))) fun y hy => (hall y hy).1) fun z => ?_
  · refine List.pairwise_map.mpr ?_
    refine List.Pairwise.imp_of_mem (fun {r t} hr ht hh => ?_) (pw.and (List.pairwise_map.mp nd))
    exact lex_of_code ((hall _ (mem2 r (inP r hr))).1.trans (hall _ (mem2 t (inP t ht))).1.symm) (hB _ (mem2 r (inP r hr))) (hB _ (mem2 t (inP t ht))) hh.1 hh.2
  · rw [setT_mem]
    exact (pm.map (·.2)).mem_iff
abbrev rSortX (K : Fg) : List V → Hp → VK → Prop := Sa.cor (rSortedI K) (Sa.cor (rSortTL K) (rSortTT K))
theorem cr_sortX {X : Cx} : CallR X (.builtin "sorted") (rSortX X.K) := CallR.cor cr_sortedI (CallR.cor cr_sortTL cr_sortTT)
theorem sT_step {ex : Ex Hb H} {ps : List (Addr × List Int)} {out : NO} {B : Int} (hs : ∀ p ∈ ps, SqT K Hb p.1 (p.2.map V.int)) (k : Kont K H Hb (.new (.lst ((setT (ps.map (·.2))).map dT))) Q)
    (hL : ∀ L' : List (Addr × List Int), L'.Perm ps → L'.Pairwise (fun p q => TS.code B p.2 ≤ TS.code B q.2) → L'.map (·.2) = setT (ps.map (·.2))) {ys : List V} {p : Addr} (pm : ys.Perm (ps.map fun p => V.ref p.1))
    (pw : ys.Pairwise (fun x y => ∀ n m, TupI K H x n → TupI K H y m → TS.code B n ≤ TS.code B m)) (hp : H p = none) : Q (.ref p) (upd H p (.lst ys)) := by
  obtain ⟨L', h1, h2⟩ : ∃ L' : List (Addr × List Int), L'.Perm ps ∧ ys = L'.map fun p => V.ref p.1 := by
    clear k hL pw hs
    revert pm
    generalize he : ps.map (fun p => V.ref p.1) = zs
    intro pm
    induction pm generalizing ps with
    | nil => exact ⟨[], by rw [List.map_eq_nil_iff.mp he], rfl⟩
    | cons x h ih =>
      match ps, he with
      | q :: ps, he =>
        injection he with e1 e2
        obtain ⟨L', a, b⟩ := ih e2
        exact ⟨q :: L', a.cons q, by rw [List.map_cons, ← b]; exact congrArg (· :: _) e1.symm⟩
    | swap x y l =>
      match ps, he with
      | q :: r :: ps, he =>
        injection he with e1 e2
        injection e2 with e2 e3
        exact ⟨r :: q :: ps, .swap q r ps, by rw [List.map_cons, List.map_cons, e3, ← e1, ← e2]⟩
    | trans _ _ ih1 ih2 =>
      obtain ⟨L1, a, b⟩ := ih2 he
      obtain ⟨L2, c, d⟩ := ih1 b.symm
      exact ⟨L2, c.trans a, d⟩
  subst h2
  have inP : ∀ r ∈ L', r ∈ ps := fun r hr => h1.mem_iff.mp hr
  have tI : ∀ r ∈ L', TupI K H (V.ref r.1) r.2 := fun r hr => ⟨r.1, rfl, Evl.ex_t ex (hs r (inP r hr))⟩
  have e := hL L' h1 (List.Pairwise.imp_of_mem (fun {r t} hr ht hh => hh _ _ (tI r hr) (tI t ht)) (List.pairwise_map.mp pw))
  rw [← e, List.map_map] at k
  exact k.li ex hp (vals_tups L' fun r hr => hs r (inP r hr))
theorem n_sortX : NatR K (rSortX K) nSortX := ⟨fun ds vs H Hb out Q ex h e k => by
  have tups : ∀ {ds : List D} {xs : List V}, RepL K Hb ds xs → (D.tups? ds).bind sT = some out → ∃ (ps : List (Addr × List Int)) (d : Nat) (B : Int), xs = ps.map (fun p => V.ref p.1) ∧ 1 ≤ d ∧ ps.length < 64 ∧ (∀ x ∈ xs, ∃ ns, TupI K H x ns ∧ ns.length = d ∧ TS.Bd B ns) ∧
      ∀ (ys : List V) (p : Addr), ys.Perm xs → ys.Pairwise (fun x y => ∀ n m, TupI K H x n → TupI K H y m → TS.code B n ≤ TS.code B m) → H p = none → Q (.ref p) (upd H p (.lst ys)) := by
    intro ds xs hr e
    cases hks : D.tups? ds with
    | none => rw [hks] at e; cases e
    | some ks =>
      rw [hks] at e
      rw [D.tups_eq hks] at hr
      obtain ⟨ps, rfl, rfl, hs⟩ := tups_vals hr
      obtain ⟨d, B, h1, h2, h3, rfl, h4⟩ := sT_run e
      refine ⟨ps, d, B, rfl, h1, h2, fun x hx => ?_, fun ys p pm pw hp => sT_step (ex := ex) (out := .new (.lst [])) hs k h4 pm pw hp⟩
      obtain ⟨p, hp, rfl⟩ := List.mem_map.mp hx
      exact ⟨p.2, ⟨p.1, rfl, Evl.ex_t ex (hs p hp)⟩, h3 p hp⟩
  unfold nSortX at e
  split at e
  · rename_i ds
    obtain ⟨x, rfl, a⟩ := h.one
    obtain ⟨p, xs, rfl, a1, a2⟩ := a.lst ex
    split at e
    · rename_i ns q
      cases e
      rw [D.ints_eq q] at a2
      rw [a2.ints] at a1
      refine .inl ⟨p, ns, rfl, a1, fun ms l h1 h2 hl => ?_⟩
      rw [sortI_one h1 h2]
      exact k.li ex hl (RepL.of_ints _)
    · obtain ⟨ps, d, B, rfl, h1, h2, h3, h4⟩ := tups a2 e
      exact .inr (.inl ⟨d, B, h1, p, _, rfl, a1, by simpa using h2, h3, h4⟩)
  · rename_i ds
    obtain ⟨x, rfl, a⟩ := h.one
    obtain ⟨p, xs, rfl, a1, a2⟩ := a.tup ex
    obtain ⟨ps, d, B, rfl, h1, h2, h3, h4⟩ := tups a2 e
    exact .inr (.inr ⟨p, _, d, B, rfl, h1, a1, by simpa using h2, h3, h4⟩)
  · cases e⟩
end
end Sa

namespace Sa
open PySem L2 PySem.Spec PyProof.Rows
open Evl (Ex)
/-- the number that the error tells: Fc passes, Ft tells more are wrong -/
def raises (Fc Ft : Fn) (S w : D) : Option Int := match Fc [.val S false, .val w false] with
  | .ok _ _ => match Ft [.val S false, .val w false] with
    | .ok (.val (.tup [.str t, .int n])) _ => if t = "more" then some n else none
    | _ => none
  | .bad => none
/-- the statement that hears the errors: the slots iL, iC hold something else behind it -/
def sHeard (Fc Ft : Fn) (iS iW iF iL iC : Nat) : SS := fun ρ => match ρ[iS]?, ρ[iW]?, ρ[iF]?, ρ[iL]?, ρ[iC]? with
  | some (.val S _), some (.val w _), some (.val (.int n) _), some a, some b => if a.pinned = false ∧ b.pinned = false ∧ raises Fc Ft S w = some n ∧ n.natAbs < 10 ^ 12 then .nx ((ρ.set iL .non).set iC .non) else .bad
  | _, _, _, _, _ => .bad
section
variable {P : Program} {w : World} {K : Fg} {mg : Str → Option Value} {base : Heap}
/-- a def whose body does what `body` says -/
theorem fnG_of2 {x qual : Str} {st : Stmt} {f : Addr} {fd : FuncData} {N ps : List Str} {k : Nat} {body : SS} (F : L2.Fun K x qual st f fd) (S : FnScope N ps (defScope st))
    (hb : ∀ (cdv : Value) (A : Around) (outer : List Env) (s : Shared) (H : Hp), fd.code = cdv → Ok (bX P w K mg base N qual st f cdv A outer s H) k → DSs (bX P w K mg base N qual st f cdv A outer s H) (defBody st) body) :
    FnG P w K mg base (k + 1) f fd ps (spI K (runDef ps.length N.length body)) := by
  obtain ⟨oc, od, kV, doc, pm, an, cdv, ct, osl, rfl, lk, hcd⟩ := F.ex
  have hpl : ps.length ≤ N.length := by
    have q := congrArg List.length S.pre
    rw [List.length_take] at q
    omega
  refine ⟨spI_len run_len, fun A outer s H args us vs Q hr hgd e0 bnd r hsp => ?_⟩
  have hl : vs.length = ps.length := spI_len run_len _ _ _ _ hsp
  have KX : K.In s.heap := e0.mod.kin.keeps fun b o e => (e0.bs b o e).1
  have lim : s.heap.NoLimit := e0.mod.nolimit.keeps fun b o e => (e0.bs b o e).1
  have kinds : ∀ y ∈ ps.zip us, (defScope st).names.lookup y.1 = some .local ∨ ((defScope st).names.lookup y.1 = some .cell ∧ ((cellsFrom (s.heap.objs.size + 1) (defScope st).names []).lookup y.1).isSome = true) := by
    rintro ⟨n, v⟩ hy
    cases S.par n (List.of_mem_zip hy).1 with
    | inl q => exact .inl q
    | inr q => exact .inr ⟨q, PySem.W.cellsFrom_some _ _ _ (.inl q)⟩
  refine codeAny_call_function hr.depth (KX _ _ lk) rfl S.co S.gen rfl (PySem.W.codeRec_of KX hcd) (bnd _ _ _ _ ?_)
  refine wpAny_newFunctionEnv_cells S.kind kinds fun env he s1 x1 => ?_
  subst he
  refine ⟨lim.keeps x1.toInCall.keep, codeAny_func ?_⟩
  have hd := hr.deeper (envOfC qual (defScope st) s.heap.objs.size f cdv)
  have ok : Ok (bX P w K mg base N qual st f cdv A outer s H) k := ⟨rfl, S.nd, hgd, hd, PassesOwn.never, hd.units⟩
  have J := inv_start (CX := CX0) (P := P) (w := w) (E := E0) S hr.hd e0 hl r x1
  have hs := (hb cdv A outer s H rfl ok).nox
  refine wpAny_mono (hs.run [] s1 _ H _ J (run_ok (ps := ps) hpl hsp)) (fun fl s2 h2 => ?_) fun e s2 h2 => h2
  have back : ∀ {σ2 : L2.St} {H2 : Hp} {v : V} {u : Value}, Inv (cxOf CX0 P w K mg base N qual (defScope st) f cdv A outer s H E0) [] σ2 H2 s2 → RelV v u → Q v H2 → CE outer P w H s Q u s2 :=
    fun {σ2 H2 v u} J rv q => ⟨v, H2, J.os, J.bare, J.base, J.hok, rv, q⟩
  cases fl with
  | next =>
    obtain ⟨σ2, H2, J, q⟩ := h2
    exact back (v := V.non) (u := Value.none) J rfl q
  | ret u =>
    obtain ⟨v, σ2, H2, J, rv, q⟩ := h2
    exact back J rv q
  | brk =>
    obtain ⟨_, _, _, q⟩ := h2
    exact q.elim
  | cont =>
    obtain ⟨_, _, _, q⟩ := h2
    exact q.elim
/-- under its name -/
theorem def_of2 {x : Str} {st : Stmt} {f : Addr} {fd : FuncData} {N ps : List Str} {k : Nat} {body : SS} (F : L2.Fun K x x st f fd) (hm : mg x = some (.ref f)) (S : FnScope N ps (defScope st))
    (b1 : ∀ (kV doc pm : Value) (an : Option Addr) (cdv ct : Value) (us : List Value), us.length = ps.length → bindArgs (PySem.W.fnOf x x (defArgs st) (defBody st) (defScope st) .none kV doc pm an cdv ct) ⟨us, []⟩ = pure (ps.zip us))
    (b2 : ∀ (kV doc pm : Value) (an : Option Addr) (cdv ct : Value) (us : List Value), us.length = ps.length → bindArgs (PySem.W.fnOf x x (defArgs st) (defBody st) (defScope st) .none kV doc pm an cdv ct) ⟨[], ps.zip us⟩ = pure (ps.zip us))
    (hb : ∀ (cdv : Value) (A : Around) (outer : List Env) (s : Shared) (H : Hp), fd.code = cdv → Ok (bX P w K mg base N x st f cdv A outer s H) k → DSs (bX P w K mg base N x st f cdv A outer s H) (defBody st) body) :
    Def P w K mg base (k + 1) x ps (runDef ps.length N.length body) := by
  have G := fnG_of2 (P := P) (w := w) (mg := mg) (base := base) F S hb
  refine ⟨f, fd, G, hm, F.kp, F.binds b1, fun s ws hl => ?_⟩
  obtain ⟨oc, od, kV, doc, pm, an, cdv, ct, osl, rfl, lk, hcd⟩ := F.ex
  exact .of_eq (b2 kV doc pm an cdv ct ws hl)
end
end Sa

namespace Sa
open PySem L2

/-! ## The plain law: spans of sources -/
abbrev Src := List (Int × Int)
def hasB (n : Int) (p : Int × Int) : Bool := decide (p.1 ≤ n) && decide (n ≤ p.2)
def hav (L : Src) (n : Int) : List Int := (L.zipIdx.filter fun x => hasB n x.1).map fun x => (x.2 : Int)
def nums (a : Int) (k : Nat) : List Int := (List.range k).map fun (i : Nat) => a + (i : Int)
def jstep (acc : Src) (x : Int × Int) : Src := match acc.getLast? with
  | some l => if l.2 + 1 = x.1 then acc.dropLast ++ [(l.1, x.2)] else acc ++ [x]
  | none => [x]
def join (xs : Src) : Src := xs.foldl jstep []
def dup (n : Int) : Int × Int := (n, n)
def spans (ns : List Int) : Src := join (ns.map dup)
theorem nums_zero (a : Int) : nums a 0 = [] := rfl
theorem nums_succ (a : Int) (k : Nat) : nums a (k + 1) = a :: nums (a + 1) k := by
  unfold nums
  rw [List.range_succ_eq_map, List.map_cons, List.map_map]
  congr 1
  · simp
  · apply List.map_congr_left; intro i _; simp; omega
theorem nums_snoc (a : Int) (k : Nat) : nums a (k + 1) = nums a k ++ [a + k] := by
  unfold nums; rw [List.range_succ, List.map_append]; rfl
theorem nums_mem {a n : Int} {k : Nat} : n ∈ nums a k ↔ a ≤ n ∧ n < a + k := by
  unfold nums
  rw [List.mem_map]
  constructor
  · rintro ⟨i, hi, rfl⟩
    have := List.mem_range.mp hi
    omega
  · intro h
    exact ⟨(n - a).toNat, List.mem_range.mpr (by omega), by omega⟩
theorem nums_app (a : Int) (j k : Nat) : nums a (j + k) = nums a j ++ nums (a + j) k := by
  induction j generalizing a with
  | zero => simp [nums_zero]
  | succ j ih =>
    rw [show j + 1 + k = (j + k) + 1 by omega, nums_succ, nums_succ, ih, List.cons_append]
    congr 3; push_cast; omega
theorem jstep_dup (acc : Src) (a m : Int) : jstep (jstep acc (a, m)) (m + 1, m + 1) = jstep acc (a, m + 1) := by
  unfold jstep
  cases h : acc.getLast? with
  | none => simp
  | some l =>
    by_cases q : l.2 + 1 = a
    · simp [q]
    · simp [q]
theorem jfold_ints (a : Int) (k : Nat) (acc : Src) : ((nums a (k + 1)).map dup).foldl jstep acc = jstep acc (a, a + k) := by
  induction k with
  | zero => simp [nums_succ, nums_zero, dup]
  | succ k ih =>
    rw [nums_snoc, List.map_append, List.foldl_append, ih]
    simp only [List.map_cons, List.map_nil, List.foldl_cons, List.foldl_nil, dup]
    have := jstep_dup acc a (a + k)
    push_cast
    rw [show a + (k : Int) + 1 = a + ((k : Int) + 1) by omega] at this
    exact this
/-- the whole numbers of spans -/
def intsOf (p : Int × Int) : List Int := nums p.1 (p.2 + 1 - p.1).toNat
theorem jfold_flat : ∀ (xs : Src) (acc : Src), (∀ p ∈ xs, p.1 ≤ p.2) → ((xs.flatMap intsOf).map dup).foldl jstep acc = xs.foldl jstep acc
  | [], _, _ => rfl
  | p :: xs, acc, h => by
    rw [List.flatMap_cons, List.map_append, List.foldl_append, List.foldl_cons]
    have hp := h p List.mem_cons_self
    have e : intsOf p = nums p.1 ((p.2 - p.1).toNat + 1) := by unfold intsOf; congr 1; omega
    rw [e, jfold_ints, jfold_flat xs _ fun q hq => h q (List.mem_cons_of_mem _ hq)]
    congr 2
    apply Prod.ext
    · rfl
    · show p.1 + ((p.2 - p.1).toNat : Int) = p.2; omega
theorem spans_flat (xs : Src) (h : ∀ p ∈ xs, p.1 ≤ p.2) : spans (xs.flatMap intsOf) = join xs := jfold_flat xs [] h

/-! ### pieces between edges -/
def pcs : Int → List Int → Src
  | _, [] => []
  | e, f :: E => (e, f - 1) :: pcs f E
theorem pcs_zip : ∀ (e : Int) (E : List Int), (List.zip (e :: E) E).map (fun x => (x.1, x.2 - 1)) = pcs e E
  | _, [] => rfl
  | e, f :: E => by
    rw [pcs, ← pcs_zip f E]
    rfl
def lastE : Int → List Int → Int
  | e, [] => e
  | _, f :: E => lastE f E
theorem lastE_ge : ∀ (e : Int) (E : List Int), (e :: E).Pairwise (· < ·) → e ≤ lastE e E ∧ ∀ x ∈ E, x ≤ lastE e E
  | e, [], _ => ⟨Int.le_refl _, fun x h => by cases h⟩
  | e, f :: E, h => by
    obtain ⟨a, b⟩ := List.pairwise_cons.mp h
    obtain ⟨c, d⟩ := lastE_ge f E b
    have := a f List.mem_cons_self
    refine ⟨by show e ≤ lastE f E; omega, fun x hx => ?_⟩
    rcases List.mem_cons.mp hx with rfl | q
    · exact c
    · exact d x q
theorem lastE_mem : ∀ (e : Int) (E : List Int), lastE e E ∈ e :: E
  | e, [] => List.mem_cons_self
  | e, f :: E => List.mem_cons_of_mem _ (lastE_mem f E)
theorem hav_congr {L : Src} {m n : Int} (h : ∀ p ∈ L, hasB m p = hasB n p) : hav L m = hav L n := by
  unfold hav
  congr 1
  refine List.filter_congr fun x hx => h _ ?_
  obtain ⟨a, b⟩ := x
  have := (List.mem_zipIdx' hx).2
  simp only at this ⊢
  rw [this]
  exact List.getElem_mem _
def Edges (L : Src) (e : Int) (E : List Int) : Prop := ∀ p ∈ L, (p.1 ≤ e ∨ p.1 ∈ E) ∧ (p.2 + 1 ≤ e ∨ p.2 + 1 ∈ E)
theorem hav_piece {L : Src} {e f : Int} {E : List Int} (hs : (e :: f :: E).Pairwise (· < ·)) (hE : Edges L e (f :: E)) {n : Int} (h1 : e ≤ n) (h2 : n < f) : hav L n = hav L e := by
  refine hav_congr fun p hp => ?_
  obtain ⟨a, b⟩ := List.pairwise_cons.mp hs
  obtain ⟨c, _⟩ := List.pairwise_cons.mp b
  have ge : ∀ x, x ∈ f :: E → f ≤ x := fun x hx => by
    rcases List.mem_cons.mp hx with rfl | q
    · exact Int.le_refl _
    · have := c x q; omega
  obtain ⟨q1, q2⟩ := hE p hp
  unfold hasB
  have e1 : decide (p.1 ≤ n) = decide (p.1 ≤ e) := decide_eq_decide.mpr ⟨fun h => by
    rcases q1 with q1 | q1
    · exact q1
    · have := ge _ q1; omega, fun h => by omega⟩
  have e2 : decide (n ≤ p.2) = decide (e ≤ p.2) := decide_eq_decide.mpr ⟨fun h => by omega, fun h => by
    rcases q2 with q2 | q2
    · omega
    · have := ge _ q2; omega⟩
  rw [e1, e2]
theorem pcs_filter {L : Src} (P : List Int → Bool) : ∀ (E : List Int) (e : Int), (e :: E).Pairwise (· < ·) → Edges L e E →
    ((pcs e E).filter fun p => P (hav L p.1)).flatMap intsOf = (nums e (lastE e E - e).toNat).filter fun n => P (hav L n)
  | [], e, _, _ => by simp [pcs, lastE, nums_zero]
  | f :: E, e, hs, hE => by
    obtain ⟨a, b⟩ := List.pairwise_cons.mp hs
    have hE' : Edges L f E := fun p hp => by
      obtain ⟨q1, q2⟩ := hE p hp
      have lt := a f List.mem_cons_self
      constructor
      · rcases q1 with q | q
        · exact .inl (by omega)
        · rcases List.mem_cons.mp q with q | q
          · exact .inl (by omega)
          · exact .inr q
      · rcases q2 with q | q
        · exact .inl (by omega)
        · rcases List.mem_cons.mp q with q | q
          · exact .inl (by omega)
          · exact .inr q
    have lt := a f List.mem_cons_self
    have ih := pcs_filter P E f b hE'
    have lg := (lastE_ge f E b).1
    have sp : nums e (lastE e (f :: E) - e).toNat = nums e (f - e).toNat ++ nums f (lastE f E - f).toNat := by
      have z : (lastE e (f :: E) - e).toNat = (f - e).toNat + (lastE f E - f).toNat := by
        show (lastE f E - e).toNat = _
        omega
      rw [z, nums_app]
      congr 2
      omega
    have hc : (nums e (f - e).toNat).filter (fun n => P (hav L n)) = if P (hav L e) = true then nums e (f - e).toNat else [] := by
      split
      · rename_i h
        refine List.filter_eq_self.mpr fun n hn => ?_
        obtain ⟨n1, n2⟩ := nums_mem.mp hn
        rw [hav_piece hs hE n1 (by omega)]; exact h
      · rename_i h
        refine List.filter_eq_nil_iff.mpr fun n hn => ?_
        obtain ⟨n1, n2⟩ := nums_mem.mp hn
        rw [hav_piece hs hE n1 (by omega)]; exact h
    rw [sp, List.filter_append, hc, ← ih, pcs, List.filter_cons]
    have ei : intsOf (e, f - 1) = nums e (f - e).toNat := by
      show nums e (f - 1 + 1 - e).toNat = _
      congr 1; omega
    split
    · rw [List.flatMap_cons, ei]
    · rfl
theorem pcs_le : ∀ (E : List Int) (e : Int), (e :: E).Pairwise (· < ·) → ∀ p ∈ pcs e E, p.1 ≤ p.2 ∧ e ≤ p.1 ∧ p.1 < lastE e E
  | [], _, _, _, hp => by cases hp
  | f :: E, e, hs, p, hp => by
    obtain ⟨a, b⟩ := List.pairwise_cons.mp hs
    have lt := a f List.mem_cons_self
    have lg := (lastE_ge f E b).1
    rcases List.mem_cons.mp hp with rfl | q
    · exact ⟨by show e ≤ f - 1; omega, Int.le_refl _, by show e < lastE f E; omega⟩
    · obtain ⟨c, d, g⟩ := pcs_le E f b p q
      exact ⟨c, by omega, g⟩

/-! ### the edges of sources -/
def lows (L : Src) : List Int := L.map (·.1)
def highs (L : Src) : List Int := L.map (·.2)
def edges (L : Src) : List Int := setI (lows L ++ (highs L).map (· + 1))
def lo (L : Src) : Int := minL (lows L)
def hi (L : Src) : Int := maxL (highs L)
/-- every number that may matter, one more at either end -/
def rng (L : Src) : List Int := nums (lo L - 1) (hi L + 2 - (lo L - 1)).toNat
structure Good (L : Src) : Prop where
  ne : L ≠ []
  le : ∀ p ∈ L, p.1 ≤ p.2
theorem edges_ex {L : Src} (g : Good L) : ∃ e E, edges L = e :: E ∧ (e :: E).Pairwise (· < ·) ∧ Edges L e E ∧ e = lo L ∧ lastE e E = hi L + 1 := by
  have mem : ∀ z, z ∈ edges L ↔ z ∈ lows L ++ (highs L).map (· + 1) := fun z => setI_mem
  have pw : (edges L).Pairwise (· < ·) := setI_pw _
  have ln : lows L ≠ [] := fun h => g.ne (List.map_eq_nil_iff.mp h)
  have hn : highs L ≠ [] := fun h => g.ne (List.map_eq_nil_iff.mp h)
  have lom : lo L ∈ edges L := (mem _).mpr (List.mem_append_left _ (minL_mem ln))
  have him : hi L + 1 ∈ edges L := (mem _).mpr (List.mem_append_right _ (List.mem_map.mpr ⟨_, maxL_mem hn, rfl⟩))
  have lob : ∀ z ∈ edges L, lo L ≤ z ∧ z ≤ hi L + 1 := fun z hz => by
    rcases List.mem_append.mp ((mem z).mp hz) with h | h
    · obtain ⟨p, hp, rfl⟩ := List.mem_map.mp h
      have h1 : lo L ≤ p.1 := minL_le (List.mem_map.mpr ⟨p, hp, rfl⟩)
      have h2 : p.2 ≤ hi L := maxL_ge (List.mem_map.mpr ⟨p, hp, rfl⟩)
      have := g.le p hp
      omega
    · obtain ⟨y, hy, rfl⟩ := List.mem_map.mp h
      obtain ⟨p, hp, rfl⟩ := List.mem_map.mp hy
      have h1 : lo L ≤ p.1 := minL_le (List.mem_map.mpr ⟨p, hp, rfl⟩)
      have h2 : p.2 ≤ hi L := maxL_ge (List.mem_map.mpr ⟨p, hp, rfl⟩)
      have := g.le p hp
      omega
  cases q : edges L with
  | nil => rw [q] at lom; cases lom
  | cons e E =>
    rw [q] at pw mem lom him lob
    have ee : e = lo L := by
      have h1 := (lob e List.mem_cons_self).1
      rcases List.mem_cons.mp lom with h | h
      · exact h.symm
      · have := (List.pairwise_cons.mp pw).1 _ h; omega
    refine ⟨e, E, rfl, pw, fun p hp => ?_, ee, ?_⟩
    · constructor
      · have h : p.1 ∈ e :: E := (mem _).mpr (List.mem_append_left _ (List.mem_map.mpr ⟨p, hp, rfl⟩))
        rcases List.mem_cons.mp h with h | h
        · exact .inl (by omega)
        · exact .inr h
      · have h : p.2 + 1 ∈ e :: E := (mem _).mpr (List.mem_append_right _ (List.mem_map.mpr ⟨p.2, List.mem_map.mpr ⟨p, hp, rfl⟩, rfl⟩))
        rcases List.mem_cons.mp h with h | h
        · exact .inl (by omega)
        · exact .inr h
    · have h1 := (lob _ (lastE_mem e E)).2
      have h2 := lastE_ge e E pw
      rcases List.mem_cons.mp him with h | h
      · have := h2.1; omega
      · have := h2.2 _ h; omega
/-- the rows of the program -/
def rowsP (L : Src) : List (Int × Int × List Int) := (List.zip (edges L) (edges L).tail).map fun x => (x.1, x.2 - 1, hav L x.1)
theorem rowsP_eq {L : Src} {e : Int} {E : List Int} (h : edges L = e :: E) : rowsP L = (pcs e E).map fun p => (p.1, p.2, hav L p.1) := by
  unfold rowsP
  rw [h, ← pcs_zip, List.map_map]
  rfl
theorem hav_out {L : Src} {n : Int} (h : n < lo L ∨ hi L < n) : hav L n = [] := by
  unfold hav
  rw [List.map_eq_nil_iff, List.filter_eq_nil_iff]
  rintro ⟨p, i⟩ hx
  have := (List.mem_zipIdx' hx).2
  have hp : p ∈ L := by rw [this]; exact List.getElem_mem _
  have h1 : lo L ≤ p.1 := minL_le (List.mem_map.mpr ⟨p, hp, rfl⟩)
  have h2 : p.2 ≤ hi L := maxL_ge (List.mem_map.mpr ⟨p, hp, rfl⟩)
  unfold hasB
  simp only [Bool.and_eq_true, decide_eq_true_eq]
  omega
theorem lo_hi {L : Src} (g : Good L) : lo L ≤ hi L := by
  cases L with
  | nil => exact absurd rfl g.ne
  | cons p L =>
    have h1 : lo (p :: L) ≤ p.1 := minL_le (List.mem_map.mpr ⟨p, List.mem_cons_self, rfl⟩)
    have h2 : p.2 ≤ hi (p :: L) := maxL_ge (List.mem_map.mpr ⟨p, List.mem_cons_self, rfl⟩)
    have := g.le p List.mem_cons_self
    omega
theorem rng_filter {L : Src} (g : Good L) {P : List Int → Bool} (hP : P [] = false) : (rng L).filter (fun n => P (hav L n)) = (nums (lo L) (hi L + 1 - lo L).toNat).filter fun n => P (hav L n) := by
  have lh := lo_hi g
  have e : rng L = (lo L - 1) :: (nums (lo L) (hi L + 1 - lo L).toNat ++ [hi L + 1]) := by
    unfold rng
    have z : (hi L + 2 - (lo L - 1)).toNat = ((hi L + 1 - lo L).toNat + 1) + 1 := by omega
    rw [z, nums_succ, nums_snoc]
    congr 1
    rw [show lo L - 1 + 1 = lo L by omega]
    congr 2; omega
  rw [e, List.filter_cons, if_neg (by rw [hav_out (.inl (by omega)), hP]; simp), List.filter_append, List.filter_cons, if_neg (by rw [hav_out (.inr (by omega)), hP]; simp), List.filter_nil, List.append_nil]
/-- T1: spans of pieces, spans of numbers -/
theorem join_rows {L : Src} (g : Good L) {P : List Int → Bool} (hP : P [] = false) : join (((rowsP L).filter fun r => P r.2.2).map fun r => (r.1, r.2.1)) = spans ((rng L).filter fun n => P (hav L n)) := by
  obtain ⟨e, E, h1, h2, h3, h4, h5⟩ := edges_ex g
  rw [rng_filter g hP, rowsP_eq h1, List.filter_map, List.map_map]
  have q := pcs_filter P E e h2 h3
  rw [h5, h4] at q
  rw [← q, ← h4]
  have id' : ((fun r : Int × Int × List Int => (r.1, r.2.1)) ∘ fun p : Int × Int => (p.1, p.2, hav L p.1)) = id := by funext p; rfl
  rw [id', List.map_id]
  refine (spans_flat _ fun p hp => ?_).symm
  exact (pcs_le E e h2 p (List.mem_filter.mp hp).1).1
/-- T3: a number that some have lies in a piece -/
theorem row_of {L : Src} (g : Good L) {n : Int} (hn : n ∈ rng L) (h : hav L n ≠ []) : ∃ r ∈ rowsP L, r.2.2 = hav L n := by
  obtain ⟨e, E, h1, h2, h3, h4, h5⟩ := edges_ex g
  have hb : lo L ≤ n ∧ n ≤ hi L := by
    refine ⟨?_, ?_⟩
    · rcases Int.lt_or_le n (lo L) with z | z
      · exact absurd (hav_out (.inl z)) h
      · exact z
    · rcases Int.lt_or_le (hi L) n with z | z
      · exact absurd (hav_out (.inr z)) h
      · exact z
  have q := pcs_filter (L := L) (fun l => decide (l = hav L n)) E e h2 h3
  have m : n ∈ (nums e (lastE e E - e).toNat).filter fun k => decide (hav L k = hav L n) := List.mem_filter.mpr ⟨nums_mem.mpr (by omega), by simp⟩
  rw [← q] at m
  obtain ⟨p, hp, _⟩ := List.mem_flatMap.mp m
  obtain ⟨hp1, hp2⟩ := List.mem_filter.mp hp
  rw [rowsP_eq h1]
  exact ⟨_, List.mem_map.mpr ⟨p, hp1, rfl⟩, of_decide_eq_true hp2⟩
theorem of_row {L : Src} (g : Good L) {r : Int × Int × List Int} (hr : r ∈ rowsP L) : r.1 ∈ rng L ∧ r.2.2 = hav L r.1 := by
  obtain ⟨e, E, h1, h2, h3, h4, h5⟩ := edges_ex g
  rw [rowsP_eq h1] at hr
  obtain ⟨p, hp, rfl⟩ := List.mem_map.mp hr
  obtain ⟨_, c, d⟩ := pcs_le E e h2 p hp
  refine ⟨nums_mem.mpr ?_, rfl⟩
  have := lo_hi g
  show lo L - 1 ≤ p.1 ∧ p.1 < _
  omega
end Sa

namespace Sa
open PySem L2

/-! ## Sources in another sequence, moved; counts -/
theorem zipIdx_filter_len (n : Int) : ∀ (L : Src) (k : Nat), ((L.zipIdx k).filter fun x => hasB n x.1).length = (L.filter (hasB n)).length
  | [], _ => rfl
  | p :: L, k => by
    rw [List.zipIdx_cons, List.filter_cons, List.filter_cons]
    have := zipIdx_filter_len n L (k + 1)
    split <;> simp [this]
theorem hav_len (L : Src) (n : Int) : (hav L n).length = (L.filter (hasB n)).length := by
  unfold hav; rw [List.length_map]; exact zipIdx_filter_len n L 0
def agr (L : Src) (m : Int) : Src := spans ((rng L).filter fun n => decide (m ≤ ((hav L n).length : Int)))
theorem minL_perm {l l' : List Int} (h : l.Perm l') : minL l = minL l' := by
  by_cases z : l = []
  · subst z; rw [List.nil_perm.mp h]
  · have z' : l' ≠ [] := fun e => z (by subst e; exact List.perm_nil.mp h)
    exact min_one (h.mem_iff.mp (minL_mem z)) fun y hy => minL_le (h.mem_iff.mpr hy)
theorem maxL_perm {l l' : List Int} (h : l.Perm l') : maxL l = maxL l' := by
  by_cases z : l = []
  · subst z; rw [List.nil_perm.mp h]
  · have z' : l' ≠ [] := fun e => z (by subst e; exact List.perm_nil.mp h)
    exact max_one (h.mem_iff.mp (maxL_mem z)) fun y hy => maxL_ge (h.mem_iff.mpr hy)
theorem agr_perm {L L' : Src} (h : L.Perm L') (m : Int) : agr L m = agr L' m := by
  have h1 : lo L = lo L' := minL_perm (h.map _)
  have h2 : hi L = hi L' := maxL_perm (h.map _)
  unfold agr rng
  rw [h1, h2]
  congr 1
  refine List.filter_congr fun n _ => ?_
  rw [hav_len, hav_len, (h.filter _).length_eq]
/-! ### moved -/
def mvP (k : Int) (p : Int × Int) : Int × Int := (p.1 + k, p.2 + k)
theorem minL_add (k : Int) {l : List Int} (h : l ≠ []) : minL (l.map (· + k)) = minL l + k := by
  refine (min_one (List.mem_map.mpr ⟨_, minL_mem h, rfl⟩) fun y hy => ?_).symm
  obtain ⟨z, hz, rfl⟩ := List.mem_map.mp hy
  have := minL_le hz
  omega
theorem maxL_add (k : Int) {l : List Int} (h : l ≠ []) : maxL (l.map (· + k)) = maxL l + k := by
  refine (max_one (List.mem_map.mpr ⟨_, maxL_mem h, rfl⟩) fun y hy => ?_).symm
  obtain ⟨z, hz, rfl⟩ := List.mem_map.mp hy
  have := maxL_ge hz
  omega
theorem nums_add (a k : Int) (n : Nat) : nums (a + k) n = (nums a n).map (· + k) := by
  unfold nums
  rw [List.map_map]
  refine List.map_congr_left fun i _ => ?_
  show a + k + (i : Int) = a + i + k
  omega
theorem jstep_mv (k : Int) (acc : Src) (x : Int × Int) : jstep (acc.map (mvP k)) (mvP k x) = (jstep acc x).map (mvP k) := by
  unfold jstep
  rw [List.getLast?_map]
  cases h : acc.getLast? with
  | none => rfl
  | some l =>
    simp only [Option.map_some]
    have e : ((mvP k l).2 + 1 = (mvP k x).1) ↔ l.2 + 1 = x.1 := by unfold mvP; constructor <;> intro h <;> simp only at h ⊢ <;> omega
    by_cases q : l.2 + 1 = x.1
    · rw [if_pos q, if_pos (e.mpr q), List.map_append, List.map_dropLast]; rfl
    · rw [if_neg q, if_neg (fun z => q (e.mp z)), List.map_append]; rfl
theorem jfold_mv (k : Int) : ∀ (xs acc : Src), (xs.map (mvP k)).foldl jstep (acc.map (mvP k)) = (xs.foldl jstep acc).map (mvP k)
  | [], _ => rfl
  | x :: xs, acc => by rw [List.map_cons, List.foldl_cons, List.foldl_cons, jstep_mv, jfold_mv k xs]
theorem spans_mv (k : Int) (ns : List Int) : spans (ns.map (· + k)) = (spans ns).map (mvP k) := by
  unfold spans join
  have : (ns.map (· + k)).map dup = (ns.map dup).map (mvP k) := by rw [List.map_map, List.map_map]; rfl
  rw [this]
  exact jfold_mv k _ []
theorem agr_mv {L : Src} (hL : L ≠ []) (k m : Int) : agr (L.map (mvP k)) m = (agr L m).map (mvP k) := by
  have h1 : lo (L.map (mvP k)) = lo L + k := by
    unfold lo lows
    rw [← minL_add k (by simpa using hL), List.map_map, List.map_map]; rfl
  have h2 : hi (L.map (mvP k)) = hi L + k := by
    unfold hi highs
    rw [← maxL_add k (by simpa using hL), List.map_map, List.map_map]; rfl
  unfold agr
  rw [← spans_mv]
  congr 1
  have hr : rng (L.map (mvP k)) = (rng L).map (· + k) := by
    unfold rng
    rw [h1, h2, ← nums_add]
    congr 1 <;> omega
  rw [hr, List.filter_map]
  congr 1
  refine List.filter_congr fun n _ => ?_
  show decide (m ≤ ((hav (L.map (mvP k)) (n + k)).length : Int)) = _
  rw [hav_len, hav_len, List.filter_map, List.length_map]
  have : (hasB (n + k) ∘ mvP k) = hasB n := by
    funext p
    unfold hasB mvP
    simp only [Function.comp_apply]
    congr 1 <;> exact decide_eq_decide.mpr (by constructor <;> intro h <;> omega)
  rw [this]
/-! ### the most -/
def cntR (L : Src) : List Int := (rng L).map fun n => ((hav L n).length : Int)
def most (L : Src) : Int := maxL (cntR L)
theorem rng_ne {L : Src} (g : Good L) : lo L ∈ rng L := nums_mem.mpr (by have := lo_hi g; omega)
theorem lo_has {L : Src} (g : Good L) : hav L (lo L) ≠ [] := by
  intro h
  have hl : lo L ∈ lows L := minL_mem fun e => g.ne (List.map_eq_nil_iff.mp e)
  obtain ⟨p, hp, e⟩ := List.mem_map.mp hl
  have q := hav_len L (lo L)
  rw [h] at q
  have : p ∈ L.filter (hasB (lo L)) := List.mem_filter.mpr ⟨hp, by
    unfold hasB
    have := g.le p hp
    simp only [Bool.and_eq_true, decide_eq_true_eq]; omega⟩
  have := List.length_pos_of_mem this
  simp at q; omega
theorem most_ge {L : Src} {n : Int} (h : n ∈ rng L) : ((hav L n).length : Int) ≤ most L := maxL_ge (List.mem_map.mpr ⟨n, h, rfl⟩)
theorem most_pos {L : Src} (g : Good L) : 1 ≤ most L := by
  have h1 := most_ge (rng_ne g)
  have h2 : 0 < (hav L (lo L)).length := List.length_pos_iff.mpr (lo_has g)
  omega
theorem most_le {L : Src} (g : Good L) : most L ≤ L.length := by
  have hm : most L ∈ cntR L := maxL_mem (by unfold cntR; intro e; have := rng_ne g; rw [List.map_eq_nil_iff.mp e] at this; cases this)
  obtain ⟨n, hn, e⟩ := List.mem_map.mp hm
  rw [← e, hav_len]
  have := List.length_filter_le (hasB n) L
  omega
theorem most_rows {L : Src} (g : Good L) : maxL ((rowsP L).map fun r => (r.2.2.length : Int)) = most L := by
  obtain ⟨r0, hr0, e0⟩ := row_of g (rng_ne g) (lo_has g)
  have hne : ((rowsP L).map fun r => (r.2.2.length : Int)) ≠ [] := fun e => by rw [List.map_eq_nil_iff.mp e] at hr0; cases hr0
  refine (max_one ?_ fun y hy => ?_).symm
  · have hm : most L ∈ cntR L := maxL_mem (by unfold cntR; intro e; have := rng_ne g; rw [List.map_eq_nil_iff.mp e] at this; cases this)
    obtain ⟨n, hn, e⟩ := List.mem_map.mp hm
    have hnn : hav L n ≠ [] := fun z => by
      rw [z] at e
      have := most_pos g
      simp at e; omega
    obtain ⟨r, hr, er⟩ := row_of g hn hnn
    exact List.mem_map.mpr ⟨r, hr, by rw [er]; exact e⟩
  · obtain ⟨r, hr, rfl⟩ := List.mem_map.mp hy
    obtain ⟨h1, h2⟩ := of_row g hr
    rw [h2]
    exact most_ge h1
theorem lots_mem {L : Src} (g : Good L) {z : List Int} : z ∈ ((rowsP L).filter fun r => decide ((r.2.2.length : Int) = most L)).map (fun r => r.2.2) ↔ z ∈ ((rng L).filter fun n => decide (((hav L n).length : Int) = most L)).map fun n => hav L n := by
  constructor
  · intro h
    obtain ⟨r, hr, rfl⟩ := List.mem_map.mp h
    obtain ⟨h1, h2⟩ := List.mem_filter.mp hr
    obtain ⟨h3, h4⟩ := of_row g h1
    exact List.mem_map.mpr ⟨r.1, List.mem_filter.mpr ⟨h3, by rw [← h4]; exact h2⟩, h4.symm⟩
  · intro h
    obtain ⟨n, hn, rfl⟩ := List.mem_map.mp h
    obtain ⟨h1, h2⟩ := List.mem_filter.mp hn
    have e := of_decide_eq_true h2
    have hnn : hav L n ≠ [] := fun z => by
      rw [z] at e
      have := most_pos g
      simp at e; omega
    obtain ⟨r, hr, er⟩ := row_of g h1 hnn
    exact List.mem_map.mpr ⟨r, List.mem_filter.mpr ⟨hr, by rw [er]; exact h2⟩, er⟩
theorem eq_most {L : Src} : ((rng L).filter fun n => decide (((hav L n).length : Int) = most L)) = (rng L).filter fun n => decide (most L ≤ ((hav L n).length : Int)) := by
  refine List.filter_congr fun n hn => decide_eq_decide.mpr ⟨fun h => by omega, fun h => ?_⟩
  have := most_ge hn
  omega
end Sa

namespace Sa
open PySem L2

/-! ## Running the terms -/
theorem unwipe_self (ρ : Rho) (vs : List Nat) : unwipe ρ (wipeR ρ vs) vs = ρ := by
  unfold unwipe
  apply List.ext_getElem?
  intro j
  rw [List.getElem?_map]
  by_cases h : j < ρ.length
  · rw [List.getElem?_range h, Option.map_some, List.getElem?_eq_getElem h]
    congr 1
    by_cases q : j ∈ vs
    · rw [if_pos q, List.getD_eq_getElem?_getD, List.getElem?_eq_getElem h]; rfl
    · rw [if_neg q, List.getD_eq_getElem?_getD, wipeR_out q, List.getElem?_eq_getElem h]; rfl
  · rw [List.getElem?_eq_none (show (List.range ρ.length).length ≤ j by rw [List.length_range]; omega), List.getElem?_eq_none (show ρ.length ≤ j by omega)]; rfl
section
variable {α : Type} {it : SI} {t : STg} {c e : SE} {vs : List Nat} {ρ ρ1 : Rho}
theorem compGo_ev (g : α → D) (p : α → Bool) (q : α → D) (ρw : Rho) : ∀ (L : List α) (acc : List D),
    (∀ a ∈ L, ∃ ρ2, t (g a) ρw = some ρ2 ∧ c ρ2 = .ok (.val (.bl (p a))) ρ2 ∧ wipeR ρ2 vs = ρw ∧ (p a = true → ∃ r ρ3 ρ4, e ρ2 = .ok r ρ3 ∧ frz r ρ3 = some (q a, ρ4) ∧ wipeR ρ4 vs = ρw)) →
    acc.length + L.length ≤ 100000 → compGo t c e vs (L.map g) ρw acc = .ok (acc ++ (L.filter p).map q) ρw
  | [], acc, _, _ => by simp [compGo]
  | a :: L, acc, h, hl => by
    obtain ⟨ρ2, h1, h2, h3, h4⟩ := h a List.mem_cons_self
    simp only [List.length_cons] at hl
    have hs : szOk acc.length = true := decide_eq_true (by omega)
    simp only [List.map_cons, compGo, h1, Rs.opt_some, h2, Rs.bind_ok]
    cases hp : p a with
    | true =>
      obtain ⟨r, ρ3, ρ4, k1, k2, k3⟩ := h4 hp
      simp only [k1, Rs.bind_ok, k2, Rs.opt_some, hs, if_true, k3]
      rw [compGo_ev g p q ρw L _ (fun a ha => h a (List.mem_cons_of_mem _ ha)) (by simp; omega), List.filter_cons, if_pos hp]
      simp
    | false =>
      simp only [h3]
      rw [compGo_ev g p q ρw L _ (fun a ha => h a (List.mem_cons_of_mem _ ha)) (by omega), List.filter_cons, if_neg (by rw [hp]; simp)]
theorem comp_ev (L : List α) (g : α → D) (p : α → Bool) (q : α → D) (hit : it ρ = .ok (L.map g) ρ1)
    (h : ∀ a ∈ L, ∃ ρ2, t (g a) (wipeR ρ1 vs) = some ρ2 ∧ c ρ2 = .ok (.val (.bl (p a))) ρ2 ∧ wipeR ρ2 vs = wipeR ρ1 vs ∧ (p a = true → ∃ r ρ3 ρ4, e ρ2 = .ok r ρ3 ∧ frz r ρ3 = some (q a, ρ4) ∧ wipeR ρ4 vs = wipeR ρ1 vs))
    (hl : L.length ≤ 100000) : sComp it t c e vs ρ = .ok (.new (.lst ((L.filter p).map q))) ρ1 := by
  simp only [sComp, hit, Rs.bind_ok]
  rw [compGo_ev g p q (wipeR ρ1 vs) L [] h (by simpa using hl)]
  simp only [Rs.bind_ok, List.nil_append, unwipe_self]
/-- no condition -/
theorem comp_all (L : List α) (g : α → D) (q : α → D) (hit : it ρ = .ok (L.map g) ρ1)
    (h : ∀ a ∈ L, ∃ ρ2 r ρ3 ρ4, t (g a) (wipeR ρ1 vs) = some ρ2 ∧ e ρ2 = .ok r ρ3 ∧ frz r ρ3 = some (q a, ρ4) ∧ wipeR ρ2 vs = wipeR ρ1 vs ∧ wipeR ρ4 vs = wipeR ρ1 vs)
    (hl : L.length ≤ 100000) : sComp it t (sC (.bl true)) e vs ρ = .ok (.new (.lst (L.map q))) ρ1 := by
  have := comp_ev (c := sC (.bl true)) (e := e) (t := t) (vs := vs) L g (fun _ => true) q hit (fun a ha => by
    obtain ⟨ρ2, r, ρ3, ρ4, h1, h2, h3, h4, h5⟩ := h a ha
    exact ⟨ρ2, h1, rfl, h4, fun _ => ⟨r, ρ3, ρ4, h2, h3, h5⟩⟩) hl
  rw [this, List.filter_eq_self.mpr (fun _ _ => rfl)]
/-- where the state goes on -/
theorem compGo_st (g : α → D) (I : Nat → Rho → Prop) (Q : D → Prop) (N : Nat) : ∀ (L : List α) (acc : List D) (k : Nat) (ρ : Rho), k + L.length = N →
    (∀ k a ρ, a ∈ L → k < N → I k ρ → ∃ ρ2 r ρ3 d ρ4, t (g a) ρ = some ρ2 ∧ e ρ2 = .ok r ρ3 ∧ frz r ρ3 = some (d, ρ4) ∧ Q d ∧ I (k + 1) (wipeR ρ4 vs)) → I k ρ → acc.length + L.length ≤ 100000 →
    ∃ ds ρ', compGo t (sC (.bl true)) e vs (L.map g) ρ acc = .ok (acc ++ ds) ρ' ∧ ds.length = L.length ∧ (∀ d ∈ ds, Q d) ∧ I (k + L.length) ρ'
  | [], acc, k, ρ, _, _, hI, _ => ⟨[], ρ, by simp [compGo], rfl, fun d hd => (by cases hd), hI⟩
  | a :: L, acc, k, ρ, hN, h, hI, hl => by
    simp only [List.length_cons] at hl hN
    obtain ⟨ρ2, r, ρ3, d, ρ4, h1, h2, h3, h4, h5⟩ := h k a ρ List.mem_cons_self (by omega) hI
    have hs : szOk acc.length = true := decide_eq_true (by omega)
    obtain ⟨ds, ρ', e1, e2, e3, e4⟩ := compGo_st g I Q N L (acc ++ [d]) (k + 1) (wipeR ρ4 vs) (by omega) (fun k a ρ ha => h k a ρ (List.mem_cons_of_mem _ ha)) h5 (by simp; omega)
    refine ⟨d :: ds, ρ', ?_, by simp [e2], fun x hx => ?_, ?_⟩
    · simp only [List.map_cons, compGo, h1, Rs.opt_some, sC, Rs.bind_ok, h2, h3, hs, if_true]
      rw [show acc ++ d :: ds = acc ++ [d] ++ ds by simp]
      exact e1
    · rcases List.mem_cons.mp hx with z | z
      · rw [z]; exact h4
      · exact e3 x z
    · rw [List.length_cons, show k + (L.length + 1) = k + 1 + L.length by omega]; exact e4
theorem comp_st (L : List α) (g : α → D) (I : Nat → Rho → Prop) (Q : D → Prop) (hit : it ρ = .ok (L.map g) ρ1) (h0 : I 0 (wipeR ρ1 vs))
    (h : ∀ k a ρ, a ∈ L → k < L.length → I k ρ → ∃ ρ2 r ρ3 d ρ4, t (g a) ρ = some ρ2 ∧ e ρ2 = .ok r ρ3 ∧ frz r ρ3 = some (d, ρ4) ∧ Q d ∧ I (k + 1) (wipeR ρ4 vs)) (hl : L.length ≤ 100000) :
    ∃ ds ρ', sComp it t (sC (.bl true)) e vs ρ = .ok (.new (.lst ds)) (unwipe ρ1 ρ' vs) ∧ ds.length = L.length ∧ (∀ d ∈ ds, Q d) ∧ I L.length ρ' := by
  obtain ⟨ds, ρ', e1, e2, e3, e4⟩ := compGo_st (t := t) (e := e) (vs := vs) g I Q L.length L [] 0 (wipeR ρ1 vs) (by simp) h h0 (by simpa using hl)
  refine ⟨ds, ρ', ?_, e2, e3, by simpa using e4⟩
  simp only [sComp, hit, Rs.bind_ok, e1, List.nil_append]
variable {F : SS}
/-- a loop, by what is left -/
theorem for_ev (g : α → D) (I : List α → Rho → Prop) (h : ∀ a L ρ, I (a :: L) ρ → ∃ ρ2 ρ3, t (g a) ρ = some ρ2 ∧ F ρ2 = .nx ρ3 ∧ I L ρ3) : ∀ (L : List α) (ρ : Rho), I L ρ → ∃ ρ', forGo t F (L.map g) ρ = .nx ρ' ∧ I [] ρ'
  | [], ρ, hI => ⟨ρ, rfl, hI⟩
  | a :: L, ρ, hI => by
    obtain ⟨ρ2, ρ3, h1, h2, h3⟩ := h a L ρ hI
    obtain ⟨ρ', e1, e2⟩ := for_ev g I h L ρ3 h3
    exact ⟨ρ', by simp only [List.map_cons, forGo, h1, oOpt_some, h2, e1], e2⟩
theorem run_ret {np n : Nat} {body : SS} {ps : List Sl} {r : R} {ρ ρ' : Rho} {o : NO} (hl : ps.length = np) (hb : body (ps.map pin1 ++ List.replicate (n - np) .non) = .ret r ρ) (hf : fin r ρ = some (o, ρ')) : runDef np n body ps = .ok o (unp ps ρ') := by
  simp only [runDef, if_pos hl, hb, hf]
theorem run_r {F : Fn} {np n : Nat} {body : SS} {ps ps' : List Sl} {r : R} {ρ0 ρ ρ' : Rho} {o : NO} (hb : body ρ0 = .ret r ρ) (hF : F = runDef np n body) (hl : ps.length = np) (h0 : ps.map pin1 ++ List.replicate (n - np) .non = ρ0) (hf : fin r ρ = some (o, ρ')) (hu : unp ps ρ' = ps') : F ps = .ok o ps' := by
  subst hF hu h0
  exact run_ret hl hb hf
theorem run_n {F : Fn} {np n : Nat} {body : SS} {ps ps' : List Sl} {ρ0 ρ : Rho} (hb : body ρ0 = .nx ρ) (hF : F = runDef np n body) (hl : ps.length = np) (h0 : ps.map pin1 ++ List.replicate (n - np) .non = ρ0) (hu : unp ps ρ = ps') : F ps = .ok (.val .non) ps' := by
  subst hF hu h0
  simp only [runDef, if_pos hl, hb]
theorem call_v {F : Fn} {fs : List SE} {ρ ρ1 ρ2 : Rho} {r : R} {rs : List R} {ps ps' : List Sl} {o : NO} (h4 : F ps = .ok o ps') (h1 : evs fs ρ = .ok rs ρ1) (h2 : toSls ρ1 rs = some ps) (h3 : noTwice (lent ρ1 rs) = true) (h5 : putB rs ps' ρ1 = ρ2) (h6 : o.r = r) : sCall F fs ρ = .ok r ρ2 := by
  subst h5 h6
  simp only [sCall, h1, Rs.bind_ok, h2, Rs.opt_some, h3, if_true, h4]
theorem ev_nil {ρ : Rho} : evs [] ρ = .ok [] ρ := rfl
theorem ev_cons {f : SE} {fs : List SE} {ρ ρ1 ρ2 : Rho} {r : R} {rs : List R} (h : f ρ = .ok r ρ1) (h2 : evs fs ρ1 = .ok rs ρ2) : evs (f :: fs) ρ = .ok (r :: rs) ρ2 := by simp only [evs, h, h2, Rs.bind_ok]
theorem ev_one {f : SE} {ρ ρ1 : Rho} {r : R} (h : f ρ = .ok r ρ1) : evs [f] ρ = .ok [r] ρ1 := ev_cons h ev_nil
theorem ev_two {f g : SE} {ρ ρ1 ρ2 : Rho} {r q : R} (h : f ρ = .ok r ρ1) (h2 : g ρ1 = .ok q ρ2) : evs [f, g] ρ = .ok [r, q] ρ2 := ev_cons h (ev_one h2)
theorem nat_ok {n : NOp} {fs : List SE} {ρ ρ1 : Rho} {rs : List R} {ds : List D} {o : NO} {r : R} (h : evs fs ρ = .ok rs ρ1) (h2 : views ρ1 rs = some ds) (h3 : n ds = some o) (h4 : o.r = r) : sNat n fs ρ = .ok r ρ1 := by
  subst h4
  simp only [sNat, h, Rs.bind_ok, h2, Rs.opt_some, h3]
theorem tup_ok {fs : List SE} {ρ ρ1 ρ2 : Rho} {rs : List R} {ds : List D} (h : evs fs ρ = .ok rs ρ1) (h2 : frzs rs ρ1 = some (ds, ρ2)) : sTup fs ρ = .ok (.val (.tup ds)) ρ2 := by
  simp only [sTup, h, Rs.bind_ok, h2, Rs.opt_some]
theorem lst_ok {fs : List SE} {ρ ρ1 ρ2 : Rho} {rs : List R} {ds : List D} (h : evs fs ρ = .ok rs ρ1) (h2 : frzs rs ρ1 = some (ds, ρ2)) : sLst fs ρ = .ok (.new (.lst ds)) ρ2 := by
  simp only [sLst, h, Rs.bind_ok, h2, Rs.opt_some]
theorem not_ok {f : SE} {ρ ρ1 : Rho} {b : Bool} (h : f ρ = .ok (.val (.bl b)) ρ1) : sNot f ρ = .ok (.val (.bl !b)) ρ1 := by
  simp only [sNot, h, Rs.bind_ok]
theorem or_ff {f g : SE} {ρ ρ1 : Rho} {m : Rs R} (h : f ρ = .ok (.val (.bl false)) ρ1) (h2 : g ρ1 = m) : sOr f g ρ = m := by
  simp only [sOr, h, Rs.bind_ok, h2]
theorem and_tt {f g : SE} {ρ ρ1 : Rho} {m : Rs R} (h : f ρ = .ok (.val (.bl true)) ρ1) (h2 : g ρ1 = m) : sAnd f g ρ = m := by
  simp only [sAnd, h, Rs.bind_ok, h2]
theorem and_ff {f g : SE} {ρ ρ1 : Rho} (h : f ρ = .ok (.val (.bl false)) ρ1) : sAnd f g ρ = .ok (.val (.bl false)) ρ1 := by
  simp only [sAnd, h, Rs.bind_ok]
theorem ifs_ff {c : SE} {F G : SS} {ρ ρ1 : Rho} (h : c ρ = .ok (.val (.bl false)) ρ1) : sIfS c F G ρ = G ρ1 := by
  simp only [sIfS, h, Rs.out]
theorem ifs_tt {c : SE} {F G : SS} {ρ ρ1 : Rho} (h : c ρ = .ok (.val (.bl true)) ρ1) : sIfS c F G ρ = F ρ1 := by
  simp only [sIfS, h, Rs.out]
theorem if_ff {c f g : SE} {ρ ρ1 : Rho} {m : Rs R} (h : c ρ = .ok (.val (.bl false)) ρ1) (h2 : g ρ1 = m) : sIf c f g ρ = m := by
  simp only [sIf, h, Rs.bind_ok, h2]
theorem if_tt {c f g : SE} {ρ ρ1 : Rho} {m : Rs R} (h : c ρ = .ok (.val (.bl true)) ρ1) (h2 : f ρ1 = m) : sIf c f g ρ = m := by
  simp only [sIf, h, Rs.bind_ok, h2]
theorem asg_ok {i : Nat} {f : SE} {ρ ρ1 ρ2 ρ3 : Rho} {r : R} {s : Sl} (h : f ρ = .ok r ρ1) (h2 : mv r ρ1 = some (s, ρ2)) (h3 : stSl i s ρ2 = some ρ3) : sAsg i f ρ = .nx ρ3 := by
  simp only [sAsg, h, Rs.out, h2, oOpt_some, h3]
theorem asgT_ok {t : STg} {f : SE} {ρ ρ1 ρ2 ρ3 : Rho} {r : R} {d : D} (h : f ρ = .ok r ρ1) (h2 : frz r ρ1 = some (d, ρ2)) (h3 : t d ρ2 = some ρ3) : sAsgT t f ρ = .nx ρ3 := by
  simp only [sAsgT, h, Rs.out, h2, oOpt_some, h3]
theorem par_ok {i j : Nat} {f g : SE} {ρ ρ1 ρ2 ρ3 : Rho} {r q : R} {s1 s2 : Sl} (h : evs [f, g] ρ = .ok [r, q] ρ1) (h1 : mvS r = some s1) (h2 : mvS q = some s2) (h3 : stSl i s1 ρ1 = some ρ2) (h4 : stSl j s2 ρ2 = some ρ3) : sPar i j f g ρ = .nx ρ3 := by
  simp only [sPar, h, Rs.out, h1, h2, oOpt_some, h3, h4]
theorem expr_ok {f : SE} {ρ ρ1 : Rho} {r : R} (h : f ρ = .ok r ρ1) : sExpr f ρ = .nx ρ1 := by simp only [sExpr, h, Rs.out]
theorem for_ok {it : SI} {t : STg} {F : SS} {ρ ρ1 : Rho} {ds : List D} {m : Out} (h : it ρ = .ok ds ρ1) (h2 : forGo t F ds ρ1 = m) : sFor it t F ρ = m := by simp only [sFor, h, Rs.out, h2]
theorem mut_ok' {i : Nat} {m : MOp} {fs : List SE} {ρ ρ1 ρ2 : Rho} {o : Ob} {pn pn' : Bool} {rs : List R} {as ds ds' : List D} {d : D} (h0 : ρ[i]? = some (.own o pn)) (h : evs fs ρ = .ok rs ρ1) (h1 : frzs rs ρ1 = some (as, ρ2)) (h2 : ρ2[i]? = some (.own (.lst ds) pn')) (h3 : m ds as = some (ds', d)) : sMut i m fs ρ = .ok (.val d) (ρ2.set i (.own (.lst ds') pn')) := by
  simp only [sMut, h0, h, Rs.bind_ok, h1, Rs.opt_some, h2, h3]
theorem setIx_ok {i : Nat} {fi fv : SE} {ρ ρ1 ρ2 ρ3 : Rho} {r : R} {k : Int} {o : Ob} {pn pn' : Bool} {ds : List D} {d : D} {j : Nat} (h : fv ρ = .ok r ρ1) (h0 : ρ1[i]? = some (.own o pn)) (h1 : fi ρ1 = .ok (.val (.int k)) ρ2) (h2 : frz r ρ2 = some (d, ρ3)) (h3 : ρ3[i]? = some (.own (.lst ds) pn')) (h4 : ixN ds.length k = some j) : sSetIx i fi fv ρ = .nx (ρ3.set i (.own (.lst (ds.set j d)) pn')) := by
  simp only [sSetIx, h, Rs.out, h0, h1, h2, oOpt_some, h3, h4]
theorem neS_l (a b : List D) : nNeS [.lst a, .lst b] = nNe [.lst a, .lst b] := rfl
theorem eqS_i (i j : Int) : nEqS [.int i, .int j] = some (.val (.bl (decide (i = j)))) := by
  have e : (D.int i).eqv (.int j) = decide (i = j) := by
    show (i == j) = _
    exact Bool.eq_iff_iff.mpr (by simp)
  show nEq [.int i, .int j] = _
  simp only [nEq, e]
  rfl
theorem neS_i (i j : Int) : nNeS [.int i, .int j] = some (.val (.bl (!decide (i = j)))) := by
  have e : (D.int i).eqv (.int j) = decide (i = j) := by
    show (i == j) = _
    exact Bool.eq_iff_iff.mpr (by simp)
  show nNe [.int i, .int j] = _
  simp only [nNe, e]
  rfl
theorem ret_ok {f : SE} {ρ ρ1 : Rho} {r : R} (h : f ρ = .ok r ρ1) : sRet f ρ = .ret r ρ1 := by simp only [sRet, h, Rs.out]
theorem cons_nx {f g : SS} {ρ ρ1 : Rho} (h : f ρ = .nx ρ1) : sCons f g ρ = g ρ1 := by simp only [sCons, h, Out.seq]
theorem cons_ret {f g : SS} {ρ ρ1 : Rho} {r : R} (h : f ρ = .ret r ρ1) : sCons f g ρ = .ret r ρ1 := by simp only [sCons, h, Out.seq]
end
def srcD (p : Int × Int) : D := .tup [.int p.1, .int p.2]
def srcs (L : Src) : D := .tup (L.map srcD)
theorem enumD_map : ∀ (L : Src) (k : Nat), enumD k (L.map srcD) = (L.zipIdx k).map fun x => .tup [.int (x.2 : Int), srcD x.1]
  | [], _ => rfl
  | p :: L, k => by
    rw [List.map_cons, List.zipIdx_cons, List.map_cons, ← enumD_map L (k + 1)]
    rfl
end Sa

/-! An error class over a class over ValueError; its __init__ says super().__init__(value), self.value = value -/
namespace Xc
open PySem PySem.W PySem.Spec PyProof.Rows
abbrev eO (C t : Addr) (d : Option Addr) : Obj := { cls := .ref C, dict := d, data := .fields #[.ref t, .none, .none, .none, .bool false, .none] }
/-- the __init__ -/
def initBody (p0 p1 p2 p3 p4 p5 p6 p7 p8 p9 : Pos) : List Stmt :=
  [.Expr (.Call (.Attribute (.Call (.Name "super" p0) [] [] p1) "__init__" p2) [.Name "value" p3] [] p4) p5,
   .Assign [.Attribute (.Name "self" p6) "value" p7] (.Name "value" p8) p9]
def initSc : Scope := { kind := .function, names := [("self", .local), ("value", .local), ("__class__", .free), ("super", .globalImplicit)], isGenerator := false, isCoroutine := false, more := [] }
def initArgs (p1 p2 : Pos) : Arguments := { posonlyargs := [], args := [{ arg := "self", annotation := none, pos := p1 }, { arg := "value", annotation := none, pos := p2 }], vararg := none, kwonlyargs := [], kw_defaults := [], kwarg := none, defaults := [] }
/-- what the written part says: C the class of the error, D the class that holds the __init__ fI, cc the cell that holds D, cda its code -/
structure ErrK (P : Program) (K : Frag) (C D fI cc cda : Addr) : Prop where
  fn : ∃ (oc : Value) (od : Option Addr) (osl : Array (Option Value)) (q1 q2 p0 p1 p2 p3 p4 p5 p6 p7 p8 p9 : Pos) (dV kV doc pm : Value) (an : Option Addr) (ct : Value),
    K.lookup fI = some ⟨oc, od, .func (fnX "__init__" "OrderError.__init__" (initArgs q1 q2) (initBody p0 p1 p2 p3 p4 p5 p6 p7 p8 p9) initSc [("__class__", cc)] .none kV doc pm an (.ref cda) ct), osl⟩ ∧ (∀ env, ∃ pl : Sem Bool, eval (.Call (.Attribute (.Call (.Name "super" p0) [] [] p1) "__init__" p2) [.Name "value" p3] [] p4) env = (do
        let ov ← attributeBase (.Call (.Name "super" p0) [] [] p1) "__init__" env (eval (.Call (.Name "super" p0) [] [] p1) env)
        standAt p2.atName
        let (f, first) ← holding [ov] (getMethod ov "__init__" pl)
        callWith p4 f first (backTo p4 (starEach [.Name "value" p3] env)) [])) ∧
      (∀ env, swapsWith (.Call (.Attribute (.Call (.Name "super" p0) [] [] p1) "__init__" p2) [.Name "value" p3] [] p4) none p5.line env = pure false) ∧
      (∀ env, swapsWith (.Name "value" p8) (some (.Attribute (.Name "self" p6) "value" p7)) p9.line env = pure false)
  cd : codeIn K (.ref cda) "OrderError.__init__" = true
  code : ∃ (c : Value) (d : Option Addr) (vs : Array Value) (sl : Array (Option Value)) (file : Str) (tf : Tok), K.lookup cda = some ⟨c, d, .fields vs, sl⟩ ∧ vs[2]? = some (.str file tf) ∧ ((P.main.file : Str) == file) = true
  top : (P.main.scope.names.lookup ("super" : Str)).isSome = false
  cell : ∃ (c : Value) (d : Option Addr) (sl : Array (Option Value)), K.lookup cc = some ⟨c, d, .cell (some (.ref D)), sl⟩
  clsD : (clsIn K D).isSome = true
  sub : mroIn K C (.ref D) = some true
  sup : nsIn K mainGlobals "super" = some none
  opq : nsIn K cStatics "thirdparty.any" = some none
  nxt : ks_superIn K C D "__init__" = some (some (.builtin "ValueError.__init__"))
  subV : subIn K (.ref C) (.type "ValueError") = some true
  oex : L2.OexC K C
  val : findIn K (.ref C) "value" = some none

section
variable {P : Program} {w : World} {A : Around} {h : Heap} {g : Array GenState} {d : Drawn} {t : Nat} {os : OsState} {K : Frag} {C D fI cc cda e t0 : Addr} {mg mb : Str → Option Value} {v : Value} {R : Result → Shared → Prop}
/-- the built-in __init__ bound to the error, called -/
theorem call_mw {u : Addr} {Q : Value → Shared → Prop} {E : Value → Shared → Prop} (T : L2.OexC K C) (X : K.In h) (hu : h.get? u = some (kxs_mw "ValueError.__init__" e)) (he : h.get? e = some (eO C t0 none))
    (hq : ∀ h' t1, (∀ b o, b ≠ e → h.get? b = some o → h'.get? b = some o) → h'.get? e = some (eO C t1 none) → Q .none ⟨h', g, d, t, os⟩) :
    wpAny (model P w) A (call (.ref u) [v]) Q E ⟨h, g, d, t, os⟩ := by
  obtain ⟨nm, q, N, bs, bm, sn, sub, ab, col, dd, k0, k1, k2, k3, k5, hC, hbm⟩ := T.cls
  have FB := PySem.F.excBase_ValueError
  refine wpAny_call (codeAny_of_tree ?_)
  show wpAny _ A.in1 (callAny (.ref u) ⟨[v], []⟩) _ _ _
  unfold callAny
  refine wpAny_bind (wpAny_load hu ?_)
  have e1 : (Value.type "method-wrapper" == Value.type "method" || Value.type "method-wrapper" == Value.type "builtin_function_or_method" || Value.type "method-wrapper" == Value.type "method-wrapper") = true := by decide
  simp only [kxs_mw, e1, if_true]
  refine KFB.if_so (by decide) (wpAny_bind (check_bound_init FB.toExcCallFacts (X _ _ hC) he rfl (wpAny_bind (wpAny_pure (wpAny_pure ?_)))))
  refine ⟨plainId_quiet FB.init.plain _, codeAny_builtin FB.initEntry ?_⟩
  exact exc_init_tree (cls := .ref C) (t0 := t0) (dv := none) (c2 := .none) (c3 := .none) (b4 := .bool false) he (by show 1 ≤ sizeLine; rw [sizeLine_eq]; omega) fun h' k x _ => hq h' _ k x
theorem init_raw (T : ErrK P K C D fI cc cda) (hroom : A.depth < recursionLimit) (lim : h.NoLimit) (X : K.In h) (hg : h.Ns mainGlobals mg) (hb : h.Ns builtinsNs mb) (hbb : ∀ x : Str, x ≠ "__name__" → mb x = bootBuiltins x)
    (he : h.get? e = some (eO C t0 none)) (nK : ∀ o, K.lookup e ≠ some o)
    (hq : ∀ h' t' dx t1, (∀ b o, b ≠ e → h.get? b = some o → h'.get? b = some o) → h.objs.size ≤ dx → dx ≠ e → h'.get? e = some (eO C t1 (some dx)) → h'.Ns1 dx (fun y => if y = "value" then some v else none) → R (.ok (.ret .none)) ⟨h', g, d, t', os⟩) :
    codeAny (model P w) A (.call (.ref fI) ⟨[.ref e, v], []⟩) R ⟨h, g, d, t, os⟩ := by
  obtain ⟨oc, od, osl, q1, q2, p0, p1, p2, p3, p4, p5, p6, p7, p8, p9, dV, kV, doc, pm, an, ct, lk, hline, hs1, hs2⟩ := T.fn
  obtain ⟨cc1, cd1, vs, sl1, file, tf, lc, hvs, hfile⟩ := T.code
  obtain ⟨c2, d2, sl2, lcell⟩ := T.cell
  obtain ⟨cdD, hD⟩ := Option.isSome_iff_exists.mp T.clsD
  obtain ⟨oD, hD1, hD2⟩ : ∃ oD, K.lookup D = some oD ∧ oD.data = .cls cdD := by
    unfold clsIn at hD
    split at hD
    · rename_i ho
      cases hD
      exact ⟨_, ho, rfl⟩
    · cases hD
  have I0 : InstAt h e (eO C t0 none) C none := ⟨he, rfl, rfl, trivial⟩
  have hse : ∀ m n : Nat, True := fun _ _ => trivial
  refine PySem.ks_codeAny_call_defAt (fd := fnX "__init__" "OrderError.__init__" (initArgs q1 q2) (initBody p0 p1 p2 p3 p4 p5 p6 p7 p8 p9) initSc [("__class__", cc)] .none kV doc pm an (.ref cda) ct) (body := initBody p0 p1 p2 p3 p4 p5 p6 p7 p8 p9)
    (binds := [("self", .ref e), ("value", v)]) hroom (X _ _ lk) rfl lim (codeRec_of X T.cd) rfl (.of_eq rfl) (show ∀ x ∈ initSc.names, x.2 ≠ .cell by decide) (fun x hx => ?_) (fun h1 hns hk1 => ?_)
  · rcases List.mem_cons.mp hx with rfl | hx
    · rfl
    · rcases List.mem_cons.mp hx with rfl | hx
      · rfl
      · cases hx
  have X1 : K.In h1 := X.keeps hk1
  have lt1 : ∀ {b : Addr} {o : Obj}, h.get? b = some o → b ≠ h.objs.size := fun q => Nat.ne_of_lt (Heap.lt_size q)
  have mS : (fun x => ([("self", Value.ref e), ("value", v)] : List (Str × Value)).reverse.lookup x) "self" = some (.ref e) := rfl
  have mV : (fun x => ([("self", Value.ref e), ("value", v)] : List (Str × Value)).reverse.lookup x) "value" = some v := rfl
  have he1 := hk1 _ _ he
  have I1 : InstAt h1 e (eO C t0 none) C none := ⟨he1, rfl, rfl, trivial⟩
  obtain ⟨pl, hcall⟩ := hline (callEnv (fnX "__init__" "OrderError.__init__" (initArgs q1 q2) (initBody p0 p1 p2 p3 p4 p5 p6 p7 p8 p9) initSc [("__class__", cc)] .none kV doc pm an (.ref cda) ct) h.objs.size fI)
  refine PySem.ks_wpAt_execs_cons (PySem.ks_wpAt_Expr_any (PySem.ks_wpAt_MethodCall (pl := pl) ?_ hcall) rfl (hs1 _))
  refine PySem.ks_wpAt_super_base (f := fI) (cc := cda) (ar := { arg := "self", annotation := none, pos := q1 }) rfl rfl rfl rfl (X1 _ _ lk) rfl rfl rfl (X1 _ _ lc) rfl hvs hfile T.top ?_
  refine ks_loadName_global rfl rfl (PySem.Calls.loadGlobal_builtin (hg.keeps hk1) (mg_none_of X hg T.sup) (hb.keeps hk1) ((hbb "super" (by decide)).trans (by decide +kernel)) ⟨rfl, ?_⟩)
  refine wpAny_loadName_free rfl rfl (c := cc) (v := .ref D) rfl ⟨_, X1 _ _ lcell, rfl⟩ ?_
  refine wpAny_loadName_local rfl rfl hns mS ?_
  refine PySem.ks_wpAny_isType_cls (X1 _ _ hD1) hD2 ⟨rfl, ?_⟩
  refine PySem.ks_wpAny_call_super (X1 _ _ hD1) hD2 he1 rfl (fun c z => by cases z) (looks_mroIn X1 T.sub) (fun h2 hso k2 => ?_)
  have X2 : K.In h2 := X1.keeps k2
  have he2 := k2 _ _ he1
  have I2 : InstAt h2 e (eO C t0 none) C none := ⟨he2, rfl, rfl, trivial⟩
  obtain ⟨cdC, hcC⟩ : ∃ cdC, clsIn K C = some cdC := by
    cases q : clsIn K C with
    | none => have z := T.nxt; unfold ks_superIn at z; rw [q] at z; cases z
    | some c => exact ⟨c, rfl⟩
  have nx := T.nxt
  unfold ks_superIn at nx
  rw [hcC] at nx
  refine kxs_getMethod kxs_ValueError hso (looks_opaque X2 T.opq) (l₀ := cdC.mro) (fun A Q E s k q => wpAny_bind ((looks_clsIn X2 hcC) A _ E s k (wpAny_pure q))) rfl X2 nx (I2.type.andThen (looks_subIn X2 T.subV)) (ks_ne X2 I2 hcC) (by decide) ?_
  have k3 : ∀ b o, h2.get? b = some o → (h2.push (kxs_mw "ValueError.__init__" e)).get? b = some o := fun b o q => Heap.get?_push_of_some _ q
  have hu : (h2.push (kxs_mw "ValueError.__init__" e)).get? h2.objs.size = some (kxs_mw "ValueError.__init__" e) := Heap.get?_push_at rfl rfl
  have hns3 : (h2.push (kxs_mw "ValueError.__init__" e)).Ns h.objs.size (fun x => ([("self", Value.ref e), ("value", v)] : List (Str × Value)).reverse.lookup x) := hns.keeps fun b o q => k3 b o (k2 b o q)
  refine kxs_callWith (i := "ValueError.__init__") (x := e) rfl (PySem.Calls.evalArgs_plain (PySem.Calls.spliced_cons (wpAny_Name (wpAny_loadName_local rfl rfl hns3 mV (PySem.Calls.spliced_nil ⟨hu, ?_⟩)))))
  refine call_mw T.oex (X2.keeps k3) hu (k3 _ _ he2) fun h4 t1 k4 he4 => ?_
  have neL : h.objs.size ≠ e := Nat.ne_of_gt (Heap.lt_size he)
  have hns4 : h4.Ns h.objs.size (fun x => ([("self", Value.ref e), ("value", v)] : List (Str × Value)).reverse.lookup x) := by
    obtain ⟨o, es, ep, ho, r⟩ := hns3
    exact ⟨o, es, ep, k4 _ _ neL ho, r⟩
  obtain ⟨nm, q, N, bs, bm, sn, sub, ab, col, dd, k0, k1, k2', k3', k5, hC, hbm⟩ := T.oex.cls
  have hcl : clsIn K C = some { name := nm, bases := bs, mro := .ref C :: bm, ns := N, qualname := q, hasDict := true, slotNames := sn, subclasses := sub, abstract := ab, collection := col, hasDel := false } := by unfold clsIn; rw [hC] <;> rfl
  have X4 : K.In h4 := fun b o z => k4 b o (fun y => nK o (y ▸ z)) ((X2.keeps k3) b o z)
  have kL : ∀ b o, b ≠ e → h.get? b = some o → h4.get? b = some o := fun b o n z => k4 b o n (k3 b o (k2 b o (hk1 b o z)))
  have sz : h.objs.size ≤ h4.objs.size := by
    obtain ⟨o, es, ep, ho, r⟩ := hns4
    exact Nat.le_of_lt (Heap.lt_size ho)
  refine PySem.ks_wpAt_execs_cons (wpAt_of_wpAny (plainObj_wpAny_Assign_Attribute (wpAny_Name (wpAny_loadName_local rfl rfl hns4 mV ?_)) (hs2 _)))
  refine wpAny_Name (wpAny_loadName_local rfl rfl hns4 mS ?_)
  refine set_plain X4 (ox := eO C t1 none) (od := none) ⟨he4, rfl, rfl, trivial⟩ T.oex.sa ?_
  refine PySem.HandSPX.exc_osa X4 he4 hcl (show PySem.HandSPX.refsVE (.ref C :: bm) = true from hbm) rfl T.val (fun h5 t5 dx k5 dn dne hx hn => ?_)
  show PySem.wpAt _ _ _ (execs [] _) _ _ _
  refine wpAt_of_wpAny (wpAny_execs_nil ?_)
  exact hq h5 t5 dx t1 (fun b o n z => k5 b o n (kL b o n z)) (Nat.le_trans sz dn) dne hx hn
end
end Xc

/-! The error made and raised; caught, and kept as a value -/
namespace Xc
open PySem PySem.Spec PyProof.Rows L2
section
variable {X : Cx} {pins : List (Addr × Obj)} {σ : L2.St} {H : Hp} {s : Shared} {C D fI cc cda : Addr} {x : Str} {p pos : Pos} {e : Expr} {ta : TA}
theorem pmk_err (T : ErrK X.prog X.K C D fI cc cda) (iC : PySem.W.findIn X.K (.ref C) "__init__" = some (some (.ref fI))) (tI : PySem.W.typeIn X.K (.ref fI) = some (.type "function")) (hr : Room 2 X.A)
    (hg : Gl X x) (hm : X.mg x = some (.ref C)) (ha : PA X [e] ta) (hdb : (x == ("__debug__" : Str)) = false := by decide)
    (he : starEach [e] X.env = (false, eval e X.env) :: starEach [] X.env := by rfl) :
    PMk X (.Call (.Name x p) [e] [] pos) (fun σ H Q => ta σ H fun vs H1 => ∃ v, vs = [v] ∧ ∀ d, H1 d = none → Q (.ref C) (some d) (upd H1 d (.xd [("value", v)]))) := by
  intro pins s σ H Q I h
  obtain ⟨nm, q, N, bs, bm, sn, sub, ab, col, dd, k0, k1, k2, k3, k5, hC, hbm⟩ := T.oex.cls
  refine wpAny_Call_Name_kw (ld_glob I hg hm ?_ hdb)
  refine PySem.W.callWith_K (h₀ := X.base) I.ok.mod.kin T.oex.kC (thn (ha.run pos pins s σ H _ I h) fun us s1 ⟨vs, H1, I1, r1, v, ev, q1⟩ => ⟨I1.kIn, ?_⟩) he rfl
  subst ev
  cases r1 with
  | @cons _ u _ ur ru rr =>
  cases rr
  show wpAny _ _ (call (.ref C) [u]) _ _ _
  obtain ⟨hp, g, dr, tk, os⟩ := s1
  have hsz : hp.objs.size ≤ hp.objs.size + 1 := Nat.le_succ _
  have kk : ∀ b o, hp.get? b = some o → ((hp.push (PySem.W.kdv_tup [u])).push (PySem.HandSPX.excO C hp.objs.size)).get? b = some o := fun b o y => Heap.get?_push_of_some _ (Heap.get?_push_of_some _ y)
  have hget : ((hp.push (PySem.W.kdv_tup [u])).push (PySem.HandSPX.excO C hp.objs.size)).get? (hp.objs.size + 1) = some (PySem.HandSPX.excO C hp.objs.size) := by heap_get
  have hs2 : ((hp.push (PySem.W.kdv_tup [u])).push (PySem.HandSPX.excO C hp.objs.size)).objs.size = hp.objs.size + 2 := by rw [Heap.size_push, Heap.size_push]
  obtain ⟨mb, b1, b2⟩ := I1.mod.blt
  refine wpAny_call (PySem.HandSPX.call_own F.excBase_ValueError (fun Y => PySem.HandSPX.refsVE_contains Y bm hbm) (I1.kIn _ _ hC) (PySem.W.looks_findIn I1.kIn iC) (fun self => PySem.W.bind_fn I1.kIn self tI)
    (by show 1 ≤ sizeLine; rw [sizeLine_eq]; omega) (init_raw (e := hp.objs.size + 1) (t0 := hp.objs.size) T (hr.make C [u] []).depth (I1.nolimit.keeps kk) (I1.kIn.keeps kk) ((I1.mod.glob.keeps I1.bk).keeps kk) ((b1.keeps I1.bk).keeps kk) b2 hget
      (fun o z => Nat.lt_irrefl _ (Nat.lt_of_lt_of_le (Heap.lt_size (I1.kIn _ _ z)) hsz)) fun h' t' dx t1 k dn dne hx' hn => ?_))
  have hlt : hp.objs.size + 1 < hp.objs.size + 2 := Nat.lt_succ_self _
  rw [hs2] at dn
  have ndx : H1 dx = none := I1.hok.fresh (Nat.le_trans (Nat.le_add_right _ 2) dn)
  have nE : H1 (hp.objs.size + 1) = none := I1.hok.fresh hsz
  obtain ⟨G, g1, g2⟩ := restrict h' fun b => decide (b ≠ hp.objs.size + 1)
  have gk : ∀ b, b ≠ hp.objs.size + 1 → G.get? b = h'.get? b := fun b hb => g1 b (decide_eq_true hb)
  have ge : G.get? (hp.objs.size + 1) = none := g2 _ (by simp)
  have nha : ∀ {b : Addr} {o : Obj}, hp.get? b = some o → b ≠ hp.objs.size + 1 := fun {b o} z => Nat.ne_of_lt (Nat.lt_of_lt_of_le (Heap.lt_size z) hsz)
  have kG : ∀ b o, hp.get? b = some o → G.get? b = some o := fun b o z => by
    rw [gk b (nha z)]
    exact k b o (nha z) (kk b o z)
  have rel : ∀ f, RelO (([("value", v)] : List (Str × V)).lookup f) (if f = "value" then some u else none) := fun f => relO_put (fs := []) (mA := fun _ => none) ru (fun _ => True.intro) f
  have J := I1.laid (t' := t') (a := dx) (o := .xd [("value", v)]) (h' := G) kG (Nat.le_trans (Nat.le_add_right _ 2) dn) ⟨_, hn.at fun o y => (gk dx dne).trans y, rel⟩
  have gs : ∀ b o, G.get? b = some o → h'.get? b = some o := fun b o z => by
    by_cases hb : b = hp.objs.size + 1
    · rw [hb, ge] at z; cases z
    · rw [← gk b hb]; exact z
  exact ⟨rfl, _, eO C t1 (some dx), _, ⟨G, g, dr, t', os⟩, upd H1 dx (.xd [("value", v)]), .ref C, some dx, rfl, J, gs, ge, hx', ⟨rfl, rfl⟩, rfl, rfl, by rw [upd_ne (Ne.symm dne)]; exact nE, rfl, I1.bare, raises_own T.oex.exC T.oex.tyC, q1 dx ndx⟩
end
end Xc

/-! except X as n: y = n, the error is kept as a value -/
namespace Xc
open PySem PySem.Spec PyProof.Rows L2
/-- at a: an error of the class cls, its dict d -/
def ExV (cls : Value) (d : Option Addr) (a : Addr) : HO := .ext fun h => ∃ (oe : Obj) (vs : Array Value), h.get? a = some oe ∧ Zc cls d oe ∧ oe.data = .fields vs
theorem exV_ok {P : Program} {w : World} {H : Hp} {h : Heap} {a : Addr} {cls : Value} {d : Option Addr} {oe : Obj} {vs : Array Value} (e : h.get? a = some oe) (z : Zc cls d oe) (hd : oe.data = .fields vs) : ObjOk P w H h a (ExV cls d a) :=
  ⟨⟨oe, vs, e, z, hd⟩, ⟨oe, e⟩, fun _ _ ⟨o, v, q, r⟩ k => ⟨o, v, k o q, r⟩⟩
theorem exV_at {P : Program} {w : World} {H : Hp} {h : Heap} {a : Addr} {cls : Value} {d : Option Addr} (hok : HOk P w H h) (e : H a = some (ExV cls d a)) : ∃ (oe : Obj) (vs : Array Value), h.get? a = some oe ∧ Zc cls d oe ∧ oe.data = .fields vs := by
  have x : ObjOk P w H h a (.ext fun h => ∃ (oe : Obj) (vs : Array Value), h.get? a = some oe ∧ Zc cls d oe ∧ oe.data = .fields vs) := hok a _ e
  exact x.1
section
variable {X : Cx} {pins : List (Addr × Obj)} {σ : L2.St} {H : Hp} {s : Shared}
/-- what stands in the heap, new since the entry, is tracked from now on -/
theorem track {a : Addr} {o : HO} (I : Inv X pins σ H s) (hn : H a = none) (n0 : X.s_0.heap.get? a = none) (nL : a ≠ X.env.locals) (nC : ∀ x c, X.env.cells.lookup x = some c → a ≠ c) (nP : ∀ p ∈ X.pn ++ pins, p.1 ≠ a)
    (new : ObjOk X.prog X.w (upd H a o) s.heap a o) : Inv X pins σ (upd H a o) s := by
  have neS : ∀ {b : Addr} {u : HO}, H b = some u → b ≠ a := fun q => ne_of_none q hn
  exact {
    ok := I.ok, os := I.os, bare := I.bare, loc := I.loc, cell := I.cell, len := I.len
    base := { keep := I.base.keep, slot := I.base.slot, there := I.base.there
              free := fun b u e n hx => by rw [upd_ne (fun z => by rw [z, n0] at e; cases e)]; exact I.base.free b u e n hx
              tups := fun b xs e => by have q := I.base.tups b xs e; rw [upd_ne (neS q)]; exact q
              frzs := fun b u xs e => by have q := I.base.frzs b u xs e; rw [upd_ne (neS q)]; exact q
              tbls := fun b ps e => by obtain ⟨m, q⟩ := I.base.tbls b ps e; exact ⟨m, by rw [upd_ne (neS q)]; exact q⟩ }
    free := by rw [upd_ne (Ne.symm nL)]; exact I.free
    freeC := fun x c e => by rw [upd_ne (Ne.symm (nC x c e))]; exact I.freeC x c e
    pin := fun p hp => by
      obtain ⟨q1, q2, q3⟩ := I.pin p hp
      exact ⟨q1, by rw [upd_ne (nP p hp)]; exact q2, q3⟩
    hok := fun b u e => by
      by_cases hb : b = a
      · subst hb
        rw [upd_same] at e; cases e
        exact new
      · rw [upd_ne hb] at e
        exact (I.hok b u e).stay (fun _ _ _ q => q) (fun c q => by rw [upd_ne (neS q)]; exact q) fun c xs q => by rw [upd_ne (neS q)]; exact q }
/-- the wish of the clause: it takes the error, y holds it then -/
def wK (K : PySem.W.Frag) (c : Value) (i j : Nat) (D : Ends) : WX := fun cls d σ H =>
  PySem.W.exmOne K cls c = some true ∧ ∀ a, H a = none → D.nx (((σ.set i (some (.ref a))).set j (some (.ref a))).set i none) (upd H a (ExV cls d a))
variable {x n y : Str} {c : Value} {i j : Nat} {body : List Stmt} {np pos pos' q1 q2 q3 : Pos} {tb : WX → TS}
theorem ps_try_keep (hst : X.stack = X.env :: X.outer) (hf : X.env.frame = some X.env.locals) (hex : X.ex = []) (hN : X.N.Nodup) (hi : X.N[i]? = some n) (hln : X.env.kindOf n = some .local) (hj : X.N[j]? = some y) (hly : X.env.kindOf y = some .local)
    (hc : Names X x c) (hdn : (n == ("__debug__" : Str)) = false := by decide) (hcn : (n == ("__classdict__" : Str)) = false := by decide) (hsw : ∀ env, swapsWith (.Name n q2) (some (.Name y q1)) q3.line env = pure false := by intro _; rfl)
    (hb : ∀ (W : WX) (pn : List (Addr × Obj)) (xe : Value → Shared → Prop), Takes (X.tr pn xe) W → PassesOwn (model X.prog X.w) X.A X.env xe → PSs (X.tr pn xe) body (tb W)) :
    PS X (.Try body [.ExceptHandler (some (.Name x np)) (some n) [.Assign [.Name y q1] (.Name n q2) q3] pos'] [] [] pos) (fun D σ H => tb (wK X.K c i j D) D σ H) := by
  refine ⟨fun pins s σ H D I h => ?_⟩
  have ok := I.ok
  have hfr : X.A.frames = some (X.env :: X.outer) := ok.frames.trans (congrArg some hst)
  let hs : List ExceptHandler := [.ExceptHandler (some (.Name x np)) (some n) [.Assign [.Name y q1] (.Name n q2) q3] pos']
  let xeT : Value → Shared → Prop := fun e t1 => wpAny (model X.prog X.w) X.A (noteFrame e X.env) (fun _ t2 => wpAny (model X.prog X.w) X.A (setFlight e none) (fun _ t3 => wpAny (model X.prog X.w) X.A (handleBy e X.env hs) (SP X pins D) X.xe t3) X.xe t2) X.xe t1
  have takes : Takes (X.tr (X.pn ++ pins) xeT) (wK X.K c i j D) := by
    rintro u s1 ⟨a, B, sI, pins', σ1, H1, cls, d, rfl, J', nb, up, sky, na, os, ag, hcls, hq⟩
    have J : Inv X pins σ1 H1 sI := J'.ofTry ok
    have skyX : Sky B (X.env :: X.outer) a (Zc cls d) X.env.locals s1.heap := by
      rw [← hst]; exact sky
    show wpAny (model X.prog X.w) X.A (noteFrame (.ref a) X.env) _ _ _
    refine Sky.land Zc.steady hfr hf skyX fun hA flA upA => ?_
    have JA : Inv X pins σ1 H1 { s1 with heap := hA } := J.landed nb flA.1 (up.trans upA) os ag
    obtain ⟨oA, vA, heA, hzA, hdA⟩ := flA.there
    have aF : a ∉ frs (X.env :: X.outer) := fun hm => by
      obtain ⟨_, o', e', hnf⟩ := flA.2.2.1.mem hm
      rw [heA] at e'; cases e'
      exact hnf _ hdA
    have aL : a ≠ X.env.locals := fun z => aF (List.mem_filterMap.mpr ⟨X.env, List.mem_cons_self, by rw [hf, z]⟩)
    have aO : a ∉ X.fs := fun hm => aF (by
      obtain ⟨env', he', q⟩ := List.mem_filterMap.mp hm
      exact List.mem_filterMap.mpr ⟨env', List.mem_cons_of_mem _ he', q⟩)
    have nI : sI.heap.get? a = none := by
      cases q : sI.heap.get? a with
      | none => rfl
      | some o =>
        have z := nb a o q (by show a ∉ frs X.stack; rw [hst]; exact aF)
        rw [flA.2.1] at z; cases z
    have n0 : X.s_0.heap.get? a = none := by
      cases q : X.s_0.heap.get? a with
      | none => rfl
      | some o =>
        obtain ⟨o', z⟩ := J.base.there a o q (by rw [hex]; exact fun z => nomatch z)
        rw [nI] at z; cases z
    have nP : ∀ p ∈ X.pn ++ pins, p.1 ≠ a := fun p hp z => by
      have q := (J.pin p hp).1
      rw [z, nI] at q; cases q
    have SA := JA.suite heA hdA na aL aO
    refine wpAny_handleBy_cons (codeAny_handlers_test ?_) (by intro q; cases q)
    have ty : PySem.W.Looks (model X.prog X.w) hA (typeOf (.ref a)) cls := fun A Q E s k q => wpAny_typeOf_ref (k _ _ heA) (by rw [hzA.1]; exact q)
    have em := PySem.W.exm_one (M := model X.prog X.w) JA.kIn ty hcls
    have nm : ∀ {Q E : Value → Shared → Prop}, Q c { s1 with heap := hA } → wpAny (model X.prog X.w) (X.A.mark (some (.ref a))) (eval (.Name x np) X.env) Q E { s1 with heap := hA } := fun {Q E} q => by
      obtain ⟨g1, g2, g3 | ⟨g3, g4, g5⟩⟩ := hc
      · exact ld_glob (X := X.suite a ((a, oA) :: (X.pn ++ pins))) SA g1 g3 q g2
      · exact ld_blt (X := X.suite a ((a, oA) :: (X.pn ++ pins))) SA g1 g3 g4 q g5 g2
    refine nm (em.here (codeAny_handlers_suite_as (HandSPX.lands_againZ flA fun hB flB upB => ?_)))
    have JB : Inv X pins σ1 H1 { s1 with heap := hB } := J.landed nb flB.1 ((up.trans upA).trans upB) os ag
    obtain ⟨oB, vB, heB, hzB, hdB⟩ := flB.there
    have SB := JB.suite heB hdB na aL aO
    refine store_ok (X := X.suite a ((a, oB) :: (X.pn ++ pins))) (v := .ref a) SB hN hi (.inl hln) rfl (fun s5 S5 => ?_) (.inr hln)
    have suite : PSs (X.suite a ((a, oB) :: (X.pn ++ pins))) [.Assign [.Name y q1] (.Name n q2) q3] (tAsg (tVar i) (gName j)) :=
      pss_one (ps_set (i := j) hN hj (.inl hly) (pe_var (i := i) hi (.inl hln) hdn hcn) (hsw _) (.inr hly))
    have lenσ : i < σ1.length := by
      rw [J.len]; exact (List.getElem?_eq_some_iff.mp hi).1
    refine wpAny_mono (suite.run [] s5 _ H1 { nx := fun σ' H' => σ' = (σ1.set i (some (.ref a))).set j (some (.ref a)) ∧ H' = H1, rt := fun _ _ => False } S5 ?_) (fun f s6 hsp => ?_) (fun _ _ z => False.elim z)
    · refine ⟨.ref a, List.getElem?_set_self lenσ, ?_⟩
      exact ⟨rfl, rfl⟩
    cases f with
    | next =>
      obtain ⟨σ6, H6, S6, rfl, rfl⟩ := hsp
      refine gone_ok (X := X.suite a ((a, oB) :: (X.pn ++ pins))) S6 hN hi hln fun s7 S7 => ?_
      obtain ⟨r1, r2, r3, r4, r5⟩ := S7.pin (a, oB) (List.mem_append_left _ List.mem_cons_self)
      have J7 : Inv X pins (((σ1.set i (some (.ref a))).set j (some (.ref a))).set i none) H6 s7 := S7.unsuite ok
      refine ⟨_, _, track J7 r2 n0 r3 (fun x c e z => ?_) nP (exV_ok r1 hzB hdB), hq a na⟩
      obtain ⟨v, oc, e1, e2⟩ := J7.cell x c e
      rw [← z, r1] at e1; cases e1
      exact r5 _ e2
    | brk => obtain ⟨_, _, _, q⟩ := hsp; exact q.elim
    | cont => obtain ⟨_, _, _, q⟩ := hsp; exact q.elim
    | ret u => obtain ⟨_, _, _, _, _, q⟩ := hsp; exact q.elim
  refine wpAny_Try_except (wpAny_mono ((hb (wK X.K c i j D) (X.pn ++ pins) xeT takes PassesOwn.looking).run [] s σ H D (I.toTry _) h) (fun f s1 hsp => ?_) (fun e s1 he => he))
  cases f with
  | next => obtain ⟨σ', H', J', q⟩ := hsp; exact wpAny_execs_nil ⟨σ', H', J'.ofTry ok, q⟩
  | brk => obtain ⟨σ', H', J', q⟩ := hsp; exact ⟨σ', H', J'.ofTry ok, q⟩
  | cont => obtain ⟨σ', H', J', q⟩ := hsp; exact ⟨σ', H', J'.ofTry ok, q⟩
  | ret u => obtain ⟨v, σ', H', J', r, q⟩ := hsp; exact ⟨v, σ', H', J'.ofTry ok, r, q⟩
end
end Xc

/-! f(lambda: body), and what the heap keeps behind it -/
namespace Xc
open PySem PySem.Spec PyProof.Rows L2 LamX
/-- all but tables stays, nothing goes -/
structure Gw (H H' : Hp) : Prop where
  ex : ∀ a o, H a = some o → (∀ ps, o ≠ .tbl ps) → H' a = some o
  al : ∀ a, H' a = none → H a = none
theorem Gw.refl (H : Hp) : Gw H H := ⟨fun _ _ h _ => h, fun _ h => h⟩
theorem Gw.trans {H H1 H2 : Hp} (a : Gw H H1) (b : Gw H1 H2) : Gw H H2 := ⟨fun c o h n => b.ex c o (a.ex c o h n) n, fun c h => a.al c (b.al c h)⟩
theorem Gw.new {H : Hp} {a : Addr} {o : HO} (h : H a = none) : Gw H (upd H a o) := ⟨fun c u e _ => (upd_ne (ne_of_none e h)).trans e, fun c e => by
  by_cases z : c = a
  · rw [z]; exact h
  · rw [upd_ne z] at e; exact e⟩
section
variable {X : Cx} {pins : List (Addr × Obj)} {σ : L2.St} {H : Hp} {s : Shared}
theorem lam_gw {T : List (Addr × Str)} {c P : Addr} {pa : Arguments} {bd : Expr} {sc : Scope} {lp : Pos} {E : Value → Shared → Prop} {Q : Value → Shared → Prop} (I : Inv X pins σ H s) (tab : TabB X.base X.mg c P) (code : X.env.code = .ref c)
    (mem : (P, X.env.qual ++ "<lambda>") ∈ T) (one : ∀ p ∈ T, p.1 = P → p.2 = X.env.qual ++ "<lambda>") (all : Tabs T H) (dft : defaultsOf pa X.env = ([], [])) (fre : ∀ y ∈ sc.names, y.2 = .free → ∃ c, X.env.cells.lookup y.1 = some c)
    (go : ∀ (f cN : Addr) (pm ctv : Value) (HN : Hp) (sN : Shared), Inv X pins σ HN sN → Gw H HN → Tabs T HN →
      sN.heap.get? f = some (PySem.W.kla_obj "<lambda>" (X.env.qual ++ "<lambda>") pa bd sc (cloFrom X.env.cells sc.names []) pm cN ctv) → HN f = none → f ∉ frs X.stack → HN cN = some (CodeO cN (X.env.qual ++ "<lambda>")) → s.heap.objs.size ≤ f → Q (.ref f) sN) :
    wpAny (model X.prog X.w) X.A (eval (.Lambda pa bd sc lp) X.env) Q E s := by
  obtain ⟨tb0, atP, trip, among⟩ := all _ mem
  have rawP : s.heap.get? P = some { cls := .none, data := .fields tb0 } := I.hok P _ atP
  have bltP : s.heap.BuiltinsAt X.mg P := tab.bm.keeps I.bk
  have offF : ∀ b, s.heap.objs.size ≤ b → b ∉ frs X.stack := fun b hb m => by
    rcases List.mem_cons.mp (I.stkSub _ m) with z | z
    · have lt := I.lt
      rw [← z] at lt
      exact absurd (Nat.lt_of_lt_of_le lt hb) (Nat.lt_irrefl _)
    · exact I.nofs hb z
  refine PySem.W.kla_eval dft ?_
  cases found : codeAmong lp tb0.toList with
  | some cv =>
    obtain ⟨cN, ec, oc⟩ := among lp cv found
    subst ec
    refine PySem.W.kla_makeFunctionHit (mg := X.mg) (c := c) (P := P) (ps := tb0) (closure_ok fre) I.ok.glob (I.mod.glob.keeps I.bk) code (tab.code.keeps I.bk) rawP trip found bltP fun ctv hN tN kN sN => ?_
    have IN : Inv X pins σ H { s with heap := hN.push (PySem.W.kla_obj "<lambda>" (X.env.qual ++ "<lambda>") pa bd sc (cloFrom X.env.cells sc.names []) ((X.mg "__name__").getD .none) cN ctv), toks := tN } := I.kept fun b o z => Heap.get?_push_of_some _ (kN b o z)
    exact go hN.objs.size cN _ ctv H _ IN (.refl H) all (Heap.get?_push_size _ rfl) (I.hok.fresh sN) (offF _ sN) oc sN
  | none =>
    refine PySem.W.kla_makeFunction (mg := X.mg) (c := c) (P := P) (ps := tb0) (closure_ok fre) I.ok.glob (I.mod.glob.keeps I.bk) code (tab.code.keeps I.bk) rawP trip found tab.gP bltP fun cN ctv hN tN kN gN lN rec tN2 => ?_
    obtain ⟨c0, ob, us, tk, e0, hob, hdt, hus⟩ := rec
    cases e0
    have sz : s.heap.objs.size ≤ hN.objs.size := by omega
    have newC : H cN = none := I.hok.fresh gN
    let row : Array Value := #[rawInt lp.line, rawInt lp.col, .ref cN]
    let HN : Hp := upd (upd H P (.tbl (tb0 ++ row))) cN (CodeO cN (X.env.qual ++ "<lambda>"))
    have IN : Inv X pins σ HN { s with heap := hN.push (PySem.W.kla_obj "<lambda>" (X.env.qual ++ "<lambda>") pa bd sc (cloFrom X.env.cells sc.names []) ((X.mg "__name__").getD .none) cN ctv), toks := tN } :=
      inv_table (more := row) I atP (fun b o hb z => Heap.get?_push_of_some _ (kN b o hb z)) (Heap.get?_push_of_some _ tN2) gN ⟨ob, us, tk, Heap.get?_push_of_some _ hob, hdt, hus⟩
    have PC : P ≠ cN := ne_of_none atP newC
    have gw : Gw H HN := ⟨fun b o z n => by
        show upd (upd H P (.tbl (tb0 ++ row))) cN _ b = _
        have nP : b ≠ P := fun q => by
          rw [q, show H P = _ from atP] at z
          exact n tb0 (Option.some.inj z).symm
        rw [upd_ne (ne_of_none z newC), upd_ne nP]
        exact z, fun b z => by
        have z' : upd (upd H P (.tbl (tb0 ++ row))) cN (CodeO cN (X.env.qual ++ "<lambda>")) b = none := z
        by_cases q1 : b = cN
        · rw [q1]; exact newC
        · rw [upd_ne q1] at z'
          by_cases q2 : b = P
          · rw [q2, upd_same] at z'; cases z'
          · rw [upd_ne q2] at z'; exact z'⟩
    have atC : HN cN = some (CodeO cN (X.env.qual ++ "<lambda>")) := upd_same
    have ap : (tb0 ++ row).toList = tb0.toList ++ [rawInt lp.line, rawInt lp.col, .ref cN] := by simp [row]
    refine go hN.objs.size cN _ ctv HN _ IN gw (fun p hp => ?_) (Heap.get?_push_size _ rfl) ?_ (offF _ sz) atC sz
    · by_cases q : p.1 = P
      · rw [one p hp q, q]
        refine ⟨tb0 ++ row, (upd_ne PC).trans upd_same, by rw [ap]; exact PySem.TriplesOk_snoc _ _ _ _ trip, fun p2 cv hcv => ?_⟩
        rw [ap] at hcv
        rcases among_app _ trip hcv with z | z
        · obtain ⟨c1, y1, y2⟩ := among p2 cv z
          exact ⟨c1, y1, gw.ex _ _ y2 codeO_ne⟩
        · exact ⟨cN, z, atC⟩
      · obtain ⟨tb1, y1, y2, y3⟩ := all p hp
        refine ⟨tb1, ?_, y2, fun p2 cv hcv => ?_⟩
        · show upd (upd H P _) cN _ p.1 = _
          rw [upd_ne (ne_of_none y1 newC), upd_ne q]; exact y1
        · obtain ⟨c1, z1, z2⟩ := y3 p2 cv hcv
          exact ⟨c1, z1, gw.ex _ _ z2 codeO_ne⟩
    · show upd (upd H P _) cN _ hN.objs.size = none
      rw [upd_ne (Nat.ne_of_gt lN), upd_ne (Nat.ne_of_gt (Nat.lt_of_lt_of_le (Heap.lt_size rawP) sz))]
      exact I.hok.fresh sz
/-- a(), in the def that got the lambda, what is raised wished for at its slots -/
theorem pe_got {CXg : CXT} {Eg : XK} {Ng : List Str} {qg : Str} {sg : Scope} {g f cN : Addr} {cdg pm ctv : Value} {pa : Arguments} {bd : Expr} {sc : Scope} {k i : Nat} {a : Str} {pn : List (Addr × Obj)} {xe : Value → Shared → Prop} {W : WX} {tb : XK → TE} {p1 p2 : Pos}
    (I : Inv X pins σ H s) (L : LamS X.env.scope sc) (hf : s.heap.get? f = some (PySem.W.kla_obj "<lambda>" (X.env.qual ++ "<lambda>") pa bd sc (cloFrom X.env.cells sc.names []) pm cN ctv)) (hfn : H f = none) (hfr : f ∉ frs X.stack)
    (bnd : bindArgs (PySem.W.kla_fn "<lambda>" (X.env.qual ++ "<lambda>") pa bd sc (cloFrom X.env.cells sc.names []) pm (.ref cN) ctv) ⟨[], []⟩ = pure [])
    (tk : Takes ((cxOf CXg X.prog X.w X.K X.mg X.base Ng qg sg g cdg X.A X.stack s H Eg).tr pn xe) W) (hr : Room (k + 1) (X.A.deeper (envOfC qg sg s.heap.objs.size g cdg)))
    (hbd : ∀ (A : Around) (outer : List Env) (s : Shared) (H : Hp) (E : XK), A.guards = X.A.guards → Room k (A.deeper (lamEnv X sc s.heap.objs.size f cN)) → PE (lamCx X A outer s H E sc f cN) bd (tb E))
    (hN : Ng[i]? = some a) (hv : Vis sg a) (hd : (a == ("__debug__" : Str)) = false := by decide) (hcd : (a == ("__classdict__" : Str)) = false := by decide) :
    PE ((cxOf CXg X.prog X.w X.K X.mg X.base Ng qg sg g cdg X.A X.stack s H Eg).tr pn xe) (.Call (.Name a p1) [] [] p2)
      (fun σZ HZ Q => σZ[i]? = some (some (.ref f)) ∧ HZ cN = some (CodeO cN (X.env.qual ++ "<lambda>")) ∧ tb (fun cls d H' => W cls d σZ H') σ HZ Q) := by
  refine ⟨fun pZ sZ σZ HZ Q IZ ⟨w1, w2, w3⟩ => ?_⟩
  refine wpAny_Call_Name_kw (thn ((pe_var (pos := p1) (i := i) hN hv hd hcd).run pZ sZ σZ HZ (fun v H1 => v = .ref f ∧ H1 = HZ) IZ ⟨.ref f, w1, rfl, rfl⟩) fun u s1 ⟨v, H1, I1, r1, ev, eH⟩ => ?_)
  subst ev
  subst eH
  obtain rfl : u = Value.ref f := r1
  have atF : s1.heap.get? f = some (PySem.W.kla_obj "<lambda>" (X.env.qual ++ "<lambda>") pa bd sc (cloFrom X.env.cells sc.names []) pm cN ctv) := I1.base.keep f _ hf hfn hfr (fun z => nomatch (show f ∈ ([] : List Addr) from z))
  refine PySem.W.callWith_F0 ⟨_, _, _, _, atF⟩ ?_
  obtain ⟨⟨ob, us, tN, hob, hdt, hus⟩, _, _⟩ := I1.hok cN _ w2
  have run : codeAny (model X.prog X.w) (X.A.deeper (envOfC qg sg s.heap.objs.size g cdg)) (.call (.ref f) ⟨[], []⟩) (CR (L2.CX X.prog X.w) (envOfC qg sg s.heap.objs.size g cdg :: X.stack) X.prog X.w H1 s1 Q (fun cls d H' => W cls d σZ H')) s1 := by
    refine PySem.W.kla_callFunE hr.depth atF rfl L.co L.gen rfl ⟨cN, ob, us, tN, rfl, hob, hdt, hus⟩ ?_
    rw [bnd]
    refine wpAny_pure (wpAny_newFunctionEnv (fun y hy => (L.own y hy).2) (fun y hy => absurd hy (by simp)) (fun hN hnsN hsbN => ⟨I1.nolimit.fresh _ hsbN, ?_⟩) L.kind)
    show codeAny _ _ (.expr bd (lamEnv X sc s1.heap.objs.size f cN)) _ _
    have J : Inv (lamCx X (X.A.deeper (envOfC qg sg s.heap.objs.size g cdg)) (envOfC qg sg s.heap.objs.size g cdg :: X.stack) s1 H1 (fun cls d H' => W cls d σZ H') sc f cN) [] σ H1 { s1 with heap := hN, toks := s1.toks + ([] : List (Str × Value)).length } :=
      lam_start2 I L I1.env0 hr.hd I1.base hnsN fun b o z => hsbN.extBut b o (Nat.ne_of_lt (Heap.lt_size z)) (Heap.get?_push_of_some _ z)
    refine PySem.W.kla_codeExpr (wpAny_mono ((hbd (X.A.deeper (envOfC qg sg s.heap.objs.size g cdg)) _ s1 H1 _ rfl (hr.deeper _)).run [] _ _ H1 Q J w3) (fun v s2 ⟨y, H2, J2, ry, q⟩ => ⟨y, H2, J2.os, J2.bare, J2.base, J2.hok, ry, q⟩) fun _ _ q => q)
  refine wpAny_call (codeAny_mono run fun r s2 hq => ?_)
  cases r with
  | error er => exact tk er s2 (XE.of_call I1 (fun _ _ _ z => z) hq)
  | ok fl => cases fl with
    | ret u => exact I1.after hq
    | _ => exact False.elim hq
/-- the def x that calls what it got: TT, what it makes of the lambda's reading -/
def Gives (X : Cx) (Ng : List Str) (x : Str) (sg : Scope) (g : Addr) (cdg : Value) (bg : List Stmt) (a : Str) (q : Str) (TT : (XK → Hp → VK → Prop) → Hp → VK → Prop) : Prop :=
  ∀ (f cN : Addr) (s : Shared) (H : Hp) (Q : VK) (tl : XK → Hp → VK → Prop),
    (∀ (W : WX) (pn : List (Addr × Obj)) (xe : Value → Shared → Prop) (p1 p2 : Pos), Takes ((cxOf C8.CX0 X.prog X.w X.K X.mg X.base Ng x sg g cdg X.A X.stack s H C8.E0).tr pn xe) W →
      PE ((cxOf C8.CX0 X.prog X.w X.K X.mg X.base Ng x sg g cdg X.A X.stack s H C8.E0).tr pn xe) (.Call (.Name a p1) [] [] p2) (fun σZ HZ Q => σZ[0]? = some (some (.ref f)) ∧ HZ cN = some (CodeO cN q) ∧ tl (fun cls d H' => W cls d σZ H') HZ Q)) →
    H cN = some (CodeO cN q) → TT tl H Q →
    ∃ t, PSs (cxOf C8.CX0 X.prog X.w X.K X.mg X.base Ng x sg g cdg X.A X.stack s H C8.E0).nox bg t ∧ t { nx := fun _ H' => Q .non H', rt := Q } (L2.start Ng [.ref f]) H
/-- x(lambda: body): TT, what the def x makes of the lambda's reading -/
def tLm (T : List (Addr × Str)) (TT : (XK → Hp → VK → Prop) → Hp → VK → Prop) (t : XK → TE) : TE := fun σ H Q => Tabs T H ∧ ∀ HN, Gw H HN → Tabs T HN → TT (fun E H' Q' => t E σ H' Q') HN Q
theorem pe_lam {T : List (Addr × Str)} {TT : (XK → Hp → VK → Prop) → Hp → VK → Prop} {x a : Str} {g c P : Addr} {k : Nat} {pg : Arguments} {bg : List Stmt} {sg : Scope} {dV kV doc pm cdv ct oc : Value} {an od : Option Addr} {osl : Array (Option Value)} {Ng : List Str}
    {pa : Arguments} {bd : Expr} {sc : Scope} {t : XK → TE} {p lp pos : Pos} (hg : Gl X x) (hm : X.mg x = some (.ref g)) (hk : PySem.W.keepIn X.K (.ref g) = true)
    (lk : X.K.lookup g = some ⟨oc, od, .func (PySem.W.fnOf x x pg bg sg dV kV doc pm an cdv ct), osl⟩) (cg : PySem.W.codeIn X.K cdv x = true) (hb : L2.Binds X.K (PySem.W.fnOf x x pg bg sg dV kV doc pm an cdv ct) [a] []) (S : FnScope Ng [a] sg) (hNg : Ng[0]? = some a) (hva : Vis sg a)
    (hG : Gives X Ng x sg g cdv bg a (X.env.qual ++ "<lambda>") TT)
    (tab : TabB X.base X.mg c P) (code : X.env.code = .ref c) (mem : (P, X.env.qual ++ "<lambda>") ∈ T) (one : ∀ p ∈ T, p.1 = P → p.2 = X.env.qual ++ "<lambda>") (hr : Room (k + 2) X.A) (L : LamS X.env.scope sc) (dft : defaultsOf pa X.env = ([], []))
    (bnd : ∀ (q : Str) (clo : List (Str × Addr)) (pm cv ctv : Value), bindArgs (PySem.W.kla_fn "<lambda>" q pa bd sc clo pm cv ctv) ⟨[], []⟩ = pure [])
    (hbd : ∀ (A : Around) (outer : List Env) (s : Shared) (H : Hp) (E : XK) (f cN : Addr), A.guards = X.A.guards → Room k (A.deeper (lamEnv X sc s.heap.objs.size f cN)) → PE (lamCx X A outer s H E sc f cN) bd (t E))
    (hdb : (x == ("__debug__" : Str)) = false := by decide) (hd : (a == ("__debug__" : Str)) = false := by decide) (hcd : (a == ("__classdict__" : Str)) = false := by decide) :
    PE X (.Call (.Name x p) [.Lambda pa bd sc lp] [] pos) (tLm T TT t) := by
  refine ⟨fun pins s σ H Q I ⟨all, w⟩ => wpAny_Call_Name_kw (ld_glob I hg hm (PySem.W.callWith_K (h₀ := X.base) I.ok.mod.kin hk ?_ (by rfl) (by rfl)) hdb)⟩
  show wpAny _ _ (spliced ((false, eval (.Lambda pa bd sc lp) X.env) :: backTo pos (starEach [] X.env))) _ _ s
  refine Calls.spliced_cons (lam_gw I tab code mem one all dft (L.has I.ok) fun f cN pmN ctN HN sN IN gw TN hf hfn hfr hco _ => Calls.spliced_nil ⟨IN.kIn, ?_⟩)
  have run : codeAny (model X.prog X.w) X.A (.call (.ref g) ⟨[.ref f], []⟩) (CR C8.CX0 X.stack X.prog X.w HN sN Q C8.E0) sN := by
    refine run_ofS (N := Ng) (ps := [a]) (us := [.ref f]) (vs := [.ref f]) lk cg S hr IN.env0 (hb sN [.ref f] IN.kIn rfl) (.cons rfl .nil) rfl fun hr2 => ?_
    obtain ⟨t2, ht2, q2⟩ := hG f cN sN HN Q (fun E H' Q' => t E σ H' Q') (fun W pn xe p1 p2 tk => pe_got (i := 0) IN L hf hfn hfr (bnd _ _ _ _ _) tk hr2 (fun A outer s H E hgu hr3 => hbd A outer s H E f cN hgu hr3) hNg hva hd hcd) hco (w HN gw TN)
    exact ⟨t2, ht2.nox, q2⟩
  refine wpAny_call (codeAny_mono run fun r s2 hq => ?_)
  cases r with
  | error e => exact (show False from hq).elim
  | ok fl => cases fl with
    | ret u => exact IN.after hq
    | _ => exact False.elim hq
end
end Xc

/-! An error that is held as a value: its class, its field -/
namespace Xc
open PySem PySem.Spec PyProof.Rows L2 LamX
/-- at a: an error of the class C, the fields fs -/
def ErrAt (H : Hp) (a C : Addr) (fs : List (Str × V)) : Prop := ∃ d, H a = some (ExV (.ref C) (some d) a) ∧ H d = some (.xd fs)
theorem ErrAt.gw {H H' : Hp} {a C : Addr} {fs : List (Str × V)} (h : ErrAt H a C fs) (g : Gw H H') : ErrAt H' a C fs := by
  obtain ⟨d, e1, e2⟩ := h
  exact ⟨d, g.ex _ _ e1 (fun ps z => by unfold ExV at z; cases z), g.ex _ _ e2 (fun ps z => by cases z)⟩
section
variable {X : Cx} {pins : List (Addr × Obj)} {σ : L2.St} {H : Hp} {s : Shared}
theorem errAt_inst {a C : Addr} {fs : List (Str × V)} (I : Inv X pins σ H s) (h : ErrAt H a C fs) : ∃ (oe od : Obj) (mA : Str → Option Value), PySem.W.InstAt s.heap a oe C (some od) ∧ (∀ f, RelO (fs.lookup f) (mA f)) ∧ ∀ f, PySem.W.lookIn f od = some (mA f) := by
  obtain ⟨d, e1, e2⟩ := h
  obtain ⟨oe, vs, ha, hz, hd⟩ := exV_at I.hok e1
  have hx : ObjOk X.prog X.w H s.heap d (.xd fs) := I.hok d _ e2
  obtain ⟨mA, hns, hr⟩ := hx
  obtain ⟨od, ho, hl⟩ := lookIn_ns hns
  exact ⟨oe, od, mA, ⟨ha, hz.1, by unfold PySem.W.notCls; rw [hd] <;> rfl, by rw [hz.2]; exact ho⟩, hr, fun f => hl f⟩
/-- isinstance(e, c) -/
def rIsV (K : PySem.W.Frag) : List V → Hp → VK → Prop := fun xs H Q => ∃ (a C : Addr) (fs : List (Str × V)) (c : V) (cv : Value) (b : Bool), xs = [.ref a, c] ∧ ErrAt H a C fs ∧ ExcC K C ∧ (∀ u, RelV c u → u = cv) ∧ PySem.W.kitOne K (.ref C) cv = some b ∧ Q (.bl b) H
theorem call_isV : CallR X (.builtin "isinstance") (rIsV X.K) := by
  intro pins s σ H xs us Q I r h
  obtain ⟨a, C, fs, c, cv, b, rfl, he, T, hcv, e, q⟩ := h
  cases r with
  | cons rx rr => cases rr with
    | cons rt rr =>
      cases rr
      cases rx
      have ec := hcv _ rt
      subst ec
      obtain ⟨oe, od, mA, inst, _, _⟩ := errAt_inst I he
      obtain ⟨cd, hcd, _⟩ := PySem.W.any_some T.hd
      exact PySem.W.kia_one (PySem.W.kitx_exc (od := some od) (by rw [hcd]; rfl) T.hg T.hk T.hs T.ha T.hn T.ht T.hm) I.kIn inst e (fun z => nomatch z) fun tk => ⟨.bl b, H, I.kept (t' := tk) fun _ _ z => z, rfl, q⟩
/-- e.f -/
def tVal (f : Str) (te : TE) : TE := fun σ H Q => te σ H fun x H1 => ∃ (a C : Addr) (fs : List (Str × V)) (v : V), x = .ref a ∧ ErrAt H1 a C fs ∧ fs.lookup f = some v ∧ Q v H1
theorem pe_val {C0 : Addr} {e : Expr} {te : TE} {pos : Pos} {n : Str} (all : ∀ (C : Addr), C = C0 → XfC X.K C ∧ PySem.W.findIn X.K (.ref C) n = some none) (he : PE X e te) (hb : attributeBase e n X.env (eval e X.env) = eval e X.env := by rfl) :
    PE X (.Attribute e n pos) (fun σ H Q => te σ H fun x H1 => ∃ (a : Addr) (fs : List (Str × V)) (v : V), x = .ref a ∧ ErrAt H1 a C0 fs ∧ fs.lookup n = some v ∧ Q v H1) := by
  refine ⟨fun pins s σ H Q I h => attr_of hb (thn (he.run pins s σ H _ I h) fun u s1 ⟨x, H1, I1, rx, a, fs, v, ex, ea, l, q⟩ => ?_)⟩
  subst ex
  obtain rfl : u = Value.ref a := rx
  obtain ⟨oe, od, mA, inst, hr, hl⟩ := errAt_inst I1 ea
  obtain ⟨T, hno⟩ := all C0 rfl
  obtain ⟨y, hu, ru⟩ := RelO.some_of (v := v) (o := mA n) (by rw [← l]; exact hr n)
  exact HandSPX.exc_get I1.kIn inst T.ga T.gg T.exC (PySem.W.findObj_own T.hdC hno rfl (by rw [hl, hu])) (handed_of ru) ⟨v, H1, I1.tok _, ru, q⟩
end
end Xc

/-! Defs that raise such an error, called -/
namespace Xc
open PySem PySem.Spec PyProof.Rows L2 LamX Sa
/-- a def keeps its promise, errors too -/
structure FnX (P : Program) (w : World) (K : Fg) (mg : Str → Option Value) (base : Heap) (k : Nat) (f : Addr) (fd : FuncData) (ps : List Str) (sp : Sp) : Prop where
  len : ∀ vs H Q E, sp vs H Q E → vs.length = ps.length
  run : ∀ (A : Around) (outer : List Env) (s : Shared) (H : Hp) (args : Args) (us : List Value) (vs : List V) (Q : VK) (E : XK), Room k A → A.guards = some [] → Env0 P w K mg base A outer s H →
    BindsTo s fd args (ps.zip us) → Vals vs us → sp vs H Q E → codeAny (model P w) A (.call (.ref f) args) (CR (L2.CX P w) outer P w H s Q E) s
abbrev xX (P : Program) (w : World) (K : Fg) (mg : Str → Option Value) (base : Heap) (N : List Str) (qual : Str) (st : Stmt) (f : Addr) (cdv : Value) (A : Around) (outer : List Env) (s : Shared) (H : Hp) (E : XK) : Cx :=
  cxOf (L2.CX P w) P w K mg base N qual (defScope st) f cdv A outer s H E
section
variable {P : Program} {w : World} {K : Fg} {mg : Str → Option Value} {base : Heap}
theorem fnX_of {x qual : Str} {st : Stmt} {f : Addr} {fd : FuncData} {N ps : List Str} {k : Nat} {sp : Sp} (F : L2.Fun K x qual st f fd) (S : FnScope N ps (defScope st)) (len : ∀ vs H Q E, sp vs H Q E → vs.length = ps.length)
    (hb : ∀ (cdv : Value) (A : Around) (outer : List Env) (s : Shared) (H : Hp) (vs : List V) (Q : VK) (E : XK), Ok (xX P w K mg base N qual st f cdv A outer s H E) k → Takes (xX P w K mg base N qual st f cdv A outer s H E) (fun cls d _ H => E cls d H) → sp vs H Q E →
      ∃ t, PSs (xX P w K mg base N qual st f cdv A outer s H E) (defBody st) t ∧ t { nx := fun _ H' => Q .non H', rt := Q } (L2.start N vs) H) : FnX P w K mg base (k + 1) f fd ps sp := by
  obtain ⟨oc, od, kV, doc, pm, an, cdv, ct, osl, rfl, lk, hcd⟩ := F.ex
  refine ⟨len, fun A outer s H args us vs Q E hr hgd e0 bnd r hsp => ?_⟩
  have hl : vs.length = ps.length := len _ _ _ _ hsp
  have KX : K.In s.heap := e0.mod.kin.keeps fun b o e => (e0.bs b o e).1
  have lim : s.heap.NoLimit := e0.mod.nolimit.keeps fun b o e => (e0.bs b o e).1
  have kinds : ∀ y ∈ ps.zip us, (defScope st).names.lookup y.1 = some .local ∨ ((defScope st).names.lookup y.1 = some .cell ∧ ((cellsFrom (s.heap.objs.size + 1) (defScope st).names []).lookup y.1).isSome = true) := by
    rintro ⟨n, v⟩ hy
    cases S.par n (List.of_mem_zip hy).1 with
    | inl q => exact .inl q
    | inr q => exact .inr ⟨q, PySem.W.cellsFrom_some _ _ _ (.inl q)⟩
  refine codeAny_call_function hr.depth (KX _ _ lk) rfl S.co S.gen rfl (PySem.W.codeRec_of KX hcd) (bnd _ _ _ _ ?_)
  refine wpAny_newFunctionEnv_cells S.kind kinds fun env he s1 x1 => ?_
  subst he
  refine ⟨lim.keeps x1.toInCall.keep, codeAny_func ?_⟩
  have hd := hr.deeper (envOfC qual (defScope st) s.heap.objs.size f cdv)
  have ok : Ok (xX P w K mg base N qual st f cdv A outer s H E) k := ⟨rfl, S.nd, hgd, hd, passes_of rfl, hd.units⟩
  obtain ⟨t, ht, hq⟩ := hb cdv A outer s H vs Q E ok (takes_of rfl rfl rfl rfl) hsp
  have J := inv_start (CX := L2.CX P w) (P := P) (w := w) (E := E) S hr.hd e0 hl r x1
  refine wpAny_mono (ht.run [] s1 _ H _ J hq) (fun fl s2 h2 => ?_) fun e s2 h2 => h2
  have back : ∀ {σ2 : L2.St} {H2 : Hp} {v : V} {u : Value}, Inv (xX P w K mg base N qual st f cdv A outer s H E) [] σ2 H2 s2 → RelV v u → Q v H2 → CE outer P w H s Q u s2 :=
    fun {σ2 H2 v u} J rv q => ⟨v, H2, J.os, J.bare, J.base, J.hok, rv, q⟩
  cases fl with
  | next =>
    obtain ⟨σ2, H2, J, q⟩ := h2
    exact back (v := V.non) (u := Value.none) J rfl q
  | ret u =>
    obtain ⟨v, σ2, H2, J, rv, q⟩ := h2
    exact back J rv q
  | brk => obtain ⟨_, _, _, q⟩ := h2; exact q.elim
  | cont => obtain ⟨_, _, _, q⟩ := h2; exact q.elim
end
section
variable {X : Cx} {k i : Nat} {f : Addr} {fd : FuncData} {ps : List Str} {sp : Sp} {x : Str} {p pos : Pos} {e : Expr} {es : List Expr} {t : TA} {W : WX}
theorem run_fnX {pins : List (Addr × Obj)} {σ : L2.St} {H : Hp} {s : Shared} {Q : VK} {us : List Value} {vs : List V} (F : FnX X.prog X.w X.K X.mg X.base k f fd ps sp) (hr : Room k X.A) (hgd : X.A.guards = some []) (hb : Binds X.K fd ps []) (tk : Takes X W)
    (I : Inv X pins σ H s) (r : Vals vs us) (h : sp vs H Q (fun cls d H' => W cls d σ H')) : wpAny (model X.prog X.w) X.A (call (.ref f) us) (EP X pins σ Q) X.xe s := by
  have hl : (us ++ []).length = ps.length := by rw [List.append_nil, ← r.length]; exact F.len _ _ _ _ h
  have bb := hb s us I.kIn hl
  rw [List.append_nil] at bb
  refine wpAny_call (codeAny_mono (F.run X.A X.stack s H ⟨us, []⟩ us vs Q _ hr hgd I.env0 bb r h) fun res s' hq => ?_)
  cases res with
  | error er => exact tk er s' (XE.of_call I (fun _ _ _ z => z) hq)
  | ok fl => cases fl with
    | ret u => exact I.after hq
    | next => exact hq.elim
    | brk => exact hq.elim
    | cont => exact hq.elim
/-- f(e, ..), what it raises wished for at the slots -/
theorem pe_callX (F : FnX X.prog X.w X.K X.mg X.base k f fd ps sp) (hr : Room k X.A) (hgd : X.A.guards = some []) (hg : Gl X x) (hm : X.mg x = some (.ref f)) (hk : PySem.W.keepIn X.K (.ref f) = true) (hb : Binds X.K fd ps []) (tk : Takes X W) (ha : PA X (e :: es) t)
    (hdb : (x == ("__debug__" : Str)) = false := by decide) (he : starEach (e :: es) X.env = (false, eval e X.env) :: starEach es X.env := by rfl) (hpl : (backTo pos (starEach es X.env)).any (·.1) = false := by rfl) :
    PE X (.Call (.Name x p) (e :: es) [] pos) (fun σ H Q => t σ H fun vs H1 => sp vs H1 Q (fun cls d H' => W cls d σ H')) := ⟨fun pins s σ H Q I h =>
  wpAny_Call_Name_kw (ld_glob I hg hm (PySem.W.callWith_K (h₀ := X.base) I.ok.mod.kin hk (thn (ha.run pos pins s σ H _ I h) fun us s1 ⟨vs, H1, I1, r, q⟩ => ⟨I1.kIn, run_fnX F hr hgd hb tk I1 r q⟩) he hpl) hdb)⟩
/-- .. of a slot that holds it -/
theorem pe_slotX (F : FnX X.prog X.w X.K X.mg X.base k f fd ps sp) (hr : Room k X.A) (hgd : X.A.guards = some []) (hN : X.N[i]? = some x) (hv : Vis X.env.scope x) (hk : PySem.W.keepIn X.K (.ref f) = true) (hb : Binds X.K fd ps []) (tk : Takes X W) (ha : PA X (e :: es) t)
    (hdb : (x == ("__debug__" : Str)) = false := by decide) (hcd : (x == ("__classdict__" : Str)) = false := by decide) (he : starEach (e :: es) X.env = (false, eval e X.env) :: starEach es X.env := by rfl) (hpl : (backTo pos (starEach es X.env)).any (·.1) = false := by rfl) :
    PE X (.Call (.Name x p) (e :: es) [] pos) (fun σ H Q => σ[i]? = some (some (.ref f)) ∧ t σ H fun vs H1 => sp vs H1 Q (fun cls d H' => W cls d σ H')) := ⟨fun pins s σ H Q I ⟨hs, ht⟩ => by
  refine wpAny_Call_Name_kw (thn ((pe_var (pos := p) hN hv hdb hcd).run pins s σ H (fun v H1 => v = .ref f ∧ H1 = H) I ⟨.ref f, hs, rfl, rfl⟩) fun u s1 ⟨v, H1, I1, r1, q1, q2⟩ => ?_)
  subst q1
  subst q2
  cases r1
  exact PySem.W.callWith_K (h₀ := X.base) I.ok.mod.kin hk (thn (ha.run pos pins s1 σ _ _ I1 ht) fun us s2 ⟨vs, H2, I2, r, q⟩ => ⟨I2.kIn, run_fnX F hr hgd hb tk I2 r q⟩) he hpl⟩
theorem PE.or {t u : TE} (a : PE X e t) (b : PE X e u) : PE X e (fun σ H Q => t σ H Q ∨ u σ H Q) := ⟨fun pins s σ H Q I h => h.elim (fun h => a.run pins s σ H Q I h) fun h => b.run pins s σ H Q I h⟩
end
/-- called with S, w it raises the error of the class C with the number n -/
def spR (K : Fg) (Fc Ft : Fn) (C : Addr) (n : Int) : Sp := fun vs H Q E => ∃ (S w : D) (Hb : Hp), Rel K [.val S false, .val w false] (vs.map some) H Hb ∧ raises Fc Ft S w = some n ∧
  ∀ d H', H' d = some (.xd [("value", .int n)]) → Gw H H' → Tabs (tbls K) H' → E (.ref C) (some d) H'
theorem spR_len {K : Fg} {Fc Ft : Fn} {C : Addr} {n : Int} : ∀ vs H Q E, spR K Fc Ft C n vs H Q E → vs.length = 2 := fun vs H Q E ⟨S, w, Hb, rel, _⟩ => by
  have := rel.len
  rw [List.length_map] at this
  exact this.symm
end Xc

/-! Defs that raise an own error with a value handed in: what they raise -/
namespace Xc
open PySem PySem.Spec PyProof.Rows L2 LamX Sa
theorem step_gw {K : Fg} {ρ ρ' : Rho} {σ σ' : L2.St} {H H' Hb Hb' : Hp} (s : Step K ρ σ H Hb ρ' σ' H' Hb') (no : ∀ a, ¬ Own ρ σ a) : Gw H H' := ⟨fun a o h n => s.kp a o h (no a) n, s.al⟩
/-- no slot owns -/
def noOwn (ρ : Rho) : Bool := ρ.all fun s => match s with
  | .own _ _ => false
  | _ => true
theorem noOwn_own {ρ : Rho} {σ : L2.St} (h : noOwn ρ = true) (a : Addr) : ¬ Own ρ σ a := fun ⟨i, o, p, e, _⟩ => by
  have q := List.all_eq_true.mp h _ (List.mem_of_getElem? e)
  cases q
/-- the number of the error's class, its value -/
abbrev RR := Rho → Option (Nat × Sa.D)
abbrev RX := List Sa.D → Option (Nat × Sa.D)
/-- wished for: the error of the class n with the value d -/
def Kp (K : Fg) (cs : Nat → Addr) (E : XK) (H : Hp) (n : Nat) (d : Sa.D) : Prop := ∀ v dx H' Hb', Gw H H' → Tabs (tbls K) H' → NT Hb' → Evl.Ex Hb' H' → Rep K Hb' d v → H' dx = some (.xd [("value", v)]) → E (.ref (cs n)) (some dx) H'
theorem Kp.after {K : Fg} {cs : Nat → Addr} {E : XK} {H H1 : Hp} {n : Nat} {d : Sa.D} (k : Kp K cs E H n d) (g : Gw H H1) : Kp K cs E H1 n d := fun v dx H' Hb' g' => k v dx H' Hb' (g.trans g')
abbrev dsl (ds : List Sa.D) : List Sl := ds.map fun d => Sl.val d false
def spX (K : Fg) (cs : Nat → Addr) (rx : RX) : Sp := fun vs H _ E => ∃ ds Hb n d, Rel K (dsl ds) (vs.map some) H Hb ∧ rx ds = some (n, d) ∧ Kp K cs E H n d
def tX (K : Fg) (cs : Nat → Addr) (E : XK) (r : RR) : TS := fun _ σ H => ∃ ρ Hb n d, Rel K ρ σ H Hb ∧ noOwn ρ = true ∧ r ρ = some (n, d) ∧ Kp K cs E H n d
abbrev XSs (X : Cx) (cs : Nat → Addr) (E : XK) (sts : List Stmt) (r : RR) : Prop := PSs X sts (tX X.K cs E r)
abbrev XS (X : Cx) (cs : Nat → Addr) (E : XK) (st : Stmt) (r : RR) : Prop := PS X st (tX X.K cs E r)
/-- the classes -/
structure ErrC (P : Program) (K : Fg) (C D fI cc cda : Addr) : Prop where
  er : ErrK P K C D fI cc cda
  iC : PySem.W.findIn K (.ref C) "__init__" = some (some (.ref fI))
  tI : PySem.W.typeIn K (.ref fI) = some (.type "function")
def rSeq (e : SS) (r : RR) : RR := fun ρ => match e ρ with
  | .nx ρ1 => if noOwn ρ1 = true then r ρ1 else none
  | _ => none
def rIf (f : SE) (i n : Nat) (r : RR) : RR := fun ρ => match f ρ with
  | .ok (.val (.bl true)) ρ1 => if noOwn ρ1 = true then match ρ1[i]? with
    | some (.val d _) => some (n, d)
    | _ => none else none
  | .ok (.val (.bl false)) ρ1 => if noOwn ρ1 = true then r ρ1 else none
  | _ => none
def datas : List R → Option (List Sa.D)
  | [] => some []
  | .val d :: rs => (datas rs).map (d :: ·)
  | _ => none
def argsD (fs : List SE) (ρ : Rho) : Option (List Sa.D) := match evs fs ρ with
  | .ok rs ρ1 => datas rs
  | .bad => none
def rCall (fs : List SE) (rx : RX) : RR := fun ρ => match argsD fs ρ with
  | some ds => rx ds
  | none => none
def rOr (a b : RR) : RR := fun ρ => match a ρ with
  | some p => some p
  | none => b ρ
def rNo : RR := fun _ => none
def rDef (np N : Nat) (r : RR) : RX := fun ds => if ds.length = np then r ((dsl ds).map pin1 ++ List.replicate (N - np) .non) else none
section
variable {X : Cx} {cs : Nat → Addr} {E : XK} {st : Stmt} {sts : List Stmt} {r : RR} {e : SS} {f : SE} {fs : List SE}
theorem PS.or {t u : TS} (a : PS X st t) (b : PS X st u) : PS X st (fun D σ H => t D σ H ∨ u D σ H) := ⟨fun pins s σ H D I h => h.elim (fun h => a.run pins s σ H D I h) fun h => b.run pins s σ H D I h⟩
theorem PSs.or {t u : TS} (a : PSs X sts t) (b : PSs X sts u) : PSs X sts (fun D σ H => t D σ H ∨ u D σ H) := ⟨fun pins s σ H D I h => h.elim (fun h => a.run pins s σ H D I h) fun h => b.run pins s σ H D I h⟩
theorem xss_no : XSs X cs E sts rNo := PSs.imp pss_never fun D σ H ⟨_, _, _, _, _, _, q, _⟩ => by cases q
theorem xss_plain (a : DS X st e) (b : XSs X cs E sts r) : XSs X cs E (st :: sts) (rSeq e r) := PSs.imp (pss_cons a b) fun D σ H ⟨ρ, Hb, n, d, rel, no, q, k⟩ => by
  refine ⟨ρ, Hb, rel, ?_⟩
  show WpS X.K ρ σ H Hb (e ρ) _
  simp only [rSeq] at q
  cases h : e ρ with
  | nx ρ1 =>
    rw [h] at q
    simp only at q
    split at q
    · rename_i no1
      exact fun σ1 H1 Hb1 s1 p1 => ⟨ρ1, Hb1, n, d, s1.rel, no1, q, k.after (step_gw s1 (noOwn_own no))⟩
    · cases q
  | brk _ => rw [h] at q; cases q
  | cnt _ => rw [h] at q; cases q
  | ret _ _ => rw [h] at q; cases q
  | bad => rw [h] at q; cases q
theorem xss_or {a b : RR} (x : XSs X cs E sts a) (y : XSs X cs E sts b) : XSs X cs E sts (rOr a b) := PSs.imp (PSs.or x y) fun D σ H ⟨ρ, Hb, n, d, rel, no, q, k⟩ => by
  simp only [rOr] at q
  cases h : a ρ with
  | some p =>
    rw [h] at q
    simp only at q
    exact .inl ⟨ρ, Hb, n, d, rel, no, h.trans q, k⟩
  | none =>
    rw [h] at q
    exact .inr ⟨ρ, Hb, n, d, rel, no, q, k⟩
theorem xss_head (a : XS X cs E st r) : XSs X cs E (st :: sts) r := PSs.imp (pss_cons a pss_never) fun D σ H q => q
/-- if c: raise C(x) -/
theorem xss_if {c : Expr} {x y : Str} {px py pr pos pif : Pos} {i n : Nat} {D fI cc cda : Addr} (hcalm : X.calm = true) (tk : Takes X (fun cls d _ H => E cls d H)) (hr : Room 2 X.A) (T : ErrC X.prog X.K (cs n) D fI cc cda) (hc : DE X c f)
    (hg : Gl X x) (hm : X.mg x = some (.ref (cs n))) (hN : X.N[i]? = some y) (hv : Vis X.env.scope y) (b : XSs X cs E sts r)
    (hdx : (x == ("__debug__" : Str)) = false := by decide) (hdy : (y == ("__debug__" : Str)) = false := by decide) (hcy : (y == ("__classdict__" : Str)) = false := by decide) :
    XSs X cs E (.If c [.Raise (some (.Call (.Name x px) [.Name y py] [] pr)) none pos] [] pif :: sts) (rIf f i n r) :=
  PSs.imp (pss_cons (ps_if hc.pt (pss_one (ps_raise hcalm tk (pmk_err T.er T.iC T.tI hr hg hm (pa_cons (pe_var (i := i) hN hv hdy hcy) pa_nil) hdx))) pss_nil) b) fun D σ H ⟨ρ, Hb, n', d, rel, no, q, k⟩ => by
    refine ⟨ρ, Hb, rel, ?_⟩
    show WpT X.K ρ σ H Hb (f ρ) _
    simp only [rIf] at q
    split at q
    · rename_i ρ1 h
      rw [h]
      split at q
      · rename_i no1
        split at q
        · rename_i d' pd hd
          cases q
          intro H1 Hb1 s1 k1
          obtain ⟨v, e1, e2⟩ := s1.rel.val i _ _ hd
          refine ⟨v, e1, v, rfl, fun dx hdx => ?_⟩
          exact k v dx _ Hb1 ((step_gw s1 (noOwn_own no)).trans (.new hdx)) (tabs_upd s1.rel.tb (.inl hdx)) s1.rel.nt (fun a o h => by rw [upd_ne (fun z => by rw [z] at h; rw [s1.rel.ex _ _ h] at hdx; cases hdx)]; exact s1.rel.ex _ _ h) e2 upd_same
        · cases q
      · cases q
    · rename_i ρ1 h
      rw [h]
      split at q
      · rename_i no1
        exact fun H1 Hb1 s1 k1 => ⟨ρ1, Hb1, n', d, s1.rel, no1, q, k.after (step_gw s1 (noOwn_own no))⟩
      · cases q
    · cases q
theorem datas_ok {K : Fg} {ρ : Rho} {σ : L2.St} {H Hb : Hp} : ∀ {rs : List R} {vs : List V} {ds : List Sa.D}, datas rs = some ds → ResL K ρ σ H Hb rs vs → RepL K Hb ds vs
  | [], vs, ds, e, h => by cases e; exact h
  | .val d :: rs, vs, ds, e, h => by
    obtain ⟨v, t, rfl, h1, h2⟩ := h
    simp only [datas] at e
    cases q : datas rs with
    | none => rw [q] at e; cases e
    | some ds' =>
      rw [q] at e
      cases e
      exact RepL.cons h1 (datas_ok q h2)
  | .new _ :: _, _, _, e, _ => by cases e
  | .own _ :: _, _, _, e, _ => by cases e
theorem rel_dsl {K : Fg} {ρ : Rho} {σ : L2.St} {H Hb : Hp} {ds : List Sa.D} {vs : List V} (rel : Rel K ρ σ H Hb) (h : RepL K Hb ds vs) : Rel K (dsl ds) (vs.map some) H Hb := by
  have hl := h.len
  refine ⟨rel.ex, by simp [hl], fun i d p q => ?_, fun i o p q => ?_, fun i j o p o' p' l q => ?_, rel.nt, rel.tb⟩
  · rw [List.getElem?_map] at q
    cases z : ds[i]? with
    | none => rw [z] at q; cases q
    | some d' =>
      rw [z] at q
      cases q
      obtain ⟨x, e1, e2⟩ := h.get z
      exact ⟨x, by rw [List.getElem?_map, e1]; rfl, e2⟩
  · rw [List.getElem?_map] at q
    cases z : ds[i]? with
    | none => rw [z] at q; cases q
    | some d' => rw [z] at q; cases q
  · rw [List.getElem?_map] at q
    cases z : ds[i]? with
    | none => rw [z] at q; cases q
    | some d' => rw [z] at q; cases q
/-- the arguments of a call that raises -/
theorem tA_call {K : Fg} {rx : RX} {σ : L2.St} {H : Hp} {Q : VK} (h : ∃ ρ Hb n d, Rel K ρ σ H Hb ∧ noOwn ρ = true ∧ rCall fs rx ρ = some (n, d) ∧ Kp K cs E H n d) : tA K fs σ H fun vs H1 => spX K cs rx vs H1 Q E := by
  obtain ⟨ρ, Hb, n, d, rel, no, q, k⟩ := h
  refine ⟨ρ, Hb, rel, ?_⟩
  simp only [rCall, argsD] at q
  cases e1 : evs fs ρ with
  | bad => rw [e1] at q; cases q
  | ok rs ρ1 =>
    rw [e1] at q
    simp only at q
    cases e2 : datas rs with
    | none => rw [e2] at q; cases q
    | some ds =>
      rw [e2] at q
      exact fun vs H1 Hb1 s1 k1 r1 f1 a1 => ⟨ds, Hb1, n, d, rel_dsl s1.rel (datas_ok e2 r1), q, k.after (step_gw s1 (noOwn_own no))⟩
/-- a def that may raise -/
structure DefX (P : Program) (w : World) (K : Fg) (mg : Str → Option Value) (base : Heap) (cs : Nat → Addr) (k : Nat) (x : Str) (ps : List Str) (rx : RX) : Prop where
  ex : ∃ (f : Addr) (fd : FuncData), FnX P w K mg base k f fd ps (spX K cs rx) ∧ mg x = some (.ref f) ∧ PySem.W.keepIn K (.ref f) = true ∧ Binds K fd ps []
section
variable {k j : Nat} {x : Str} {ps : List Str} {rx : RX} {a : Expr} {as : List Expr} {p pos pos' : Pos}
theorem pe_callXX (G : DefX X.prog X.w X.K X.mg X.base cs j x ps rx) (hj : j ≤ k) (hr : Room k X.A) (hgd : X.A.guards = some []) (tk : Takes X (fun cls d _ H => E cls d H)) (hg : Gl X x) (ha : DA X (a :: as) fs)
    (hdb : (x == ("__debug__" : Str)) = false := by decide) (he : starEach (a :: as) X.env = (false, eval a X.env) :: starEach as X.env := by rfl) (hpl : (backTo pos (starEach as X.env)).any (·.1) = false := by rfl) :
    PE X (.Call (.Name x p) (a :: as) [] pos) (fun σ H Q => ∃ ρ Hb n d, Rel X.K ρ σ H Hb ∧ noOwn ρ = true ∧ rCall fs rx ρ = some (n, d) ∧ Kp X.K cs E H n d) := by
  obtain ⟨f, fd, F, hm, hk, hb⟩ := G.ex
  exact PE.imp (pe_callX F (hr.mono hj) hgd hg hm hk hb tk ha hdb he hpl) fun σ H Q h => tA_call h
theorem xs_expr (G : DefX X.prog X.w X.K X.mg X.base cs j x ps rx) (hj : j ≤ k) (hr : Room k X.A) (hgd : X.A.guards = some []) (tk : Takes X (fun cls d _ H => E cls d H)) (hg : Gl X x) (ha : DA X (a :: as) fs)
    (hdb : (x == ("__debug__" : Str)) = false := by decide) (he : starEach (a :: as) X.env = (false, eval a X.env) :: starEach as X.env := by rfl) (hpl : (backTo pos (starEach as X.env)).any (·.1) = false := by rfl) (hs : swapsWith (.Call (.Name x p) (a :: as) [] pos) none pos'.line X.env = pure false := by rfl) :
    XS X cs E (.Expr (.Call (.Name x p) (a :: as) [] pos) pos') (rCall fs rx) := PS.imp (ps_expr (pe_callXX G hj hr hgd tk hg ha hdb he hpl) hs) fun D σ H h => h
theorem xs_set {i : Nat} {y : Str} {py : Pos} (hnd : X.N.Nodup) (hN : X.N[i]? = some y) (hy : Loc X.env.scope y) (G : DefX X.prog X.w X.K X.mg X.base cs j x ps rx) (hj : j ≤ k) (hr : Room k X.A) (hgd : X.A.guards = some []) (tk : Takes X (fun cls d _ H => E cls d H)) (hg : Gl X x) (ha : DA X (a :: as) fs)
    (hdb : (x == ("__debug__" : Str)) = false := by decide) (he : starEach (a :: as) X.env = (false, eval a X.env) :: starEach as X.env := by rfl) (hpl : (backTo pos (starEach as X.env)).any (·.1) = false := by rfl) (hs : swapsWith (.Call (.Name x p) (a :: as) [] pos) (some (.Name y py)) pos'.line X.env = pure false := by rfl)
    (hf : X.fn y = true ∨ X.env.scope.names.lookup y = some .local := by first | exact .inl rfl | exact .inr rfl | assumption) :
    XS X cs E (.Assign [.Name y py] (.Call (.Name x p) (a :: as) [] pos) pos') (rCall fs rx) := PS.imp (ps_set hnd hN hy (pe_callXX G hj hr hgd tk hg ha hdb he hpl) hs hf) fun D σ H h => h
theorem xs_par {i i2 : Nat} {y z : Str} {b : Expr} {py pz pt : Pos} {kt k2 : Nat} {pt2 : Pos} {tb : TE} (hcalm : X.calm = true) (hnd : X.N.Nodup) (hN : X.N[i]? = some y) (hN2 : X.N[i2]? = some z) (hij : i ≠ i2) (hy : X.env.scope.names.lookup y = some .local) (hz : X.env.scope.names.lookup z = some .local)
    (G : DefX X.prog X.w X.K X.mg X.base cs j x ps rx) (hj : j ≤ k) (hr : Room k X.A) (hgd : X.A.guards = some []) (tk : Takes X (fun cls d _ H => E cls d H)) (hg : Gl X x) (ha : DA X (a :: as) fs) (hb : PE X b tb)
    (hw : swappedStores [.Tuple [.Name y py, .Name z pz] kt pt] (.Tuple [.Call (.Name x p) (a :: as) [] pos, b] k2 pt2) X.env = pure (some [y, z]))
    (hdb : (x == ("__debug__" : Str)) = false := by decide) (he : starEach (a :: as) X.env = (false, eval a X.env) :: starEach as X.env := by rfl) (hpl : (backTo pos (starEach as X.env)).any (·.1) = false := by rfl)
    (he2 : starEach [.Call (.Name x p) (a :: as) [] pos, b] X.env = (false, eval (.Call (.Name x p) (a :: as) [] pos) X.env) :: starEach [b] X.env := by rfl) (he3 : starEach [b] X.env = (false, eval b X.env) :: starEach [] X.env := by rfl)
    (hs : swapsWithSole [.Tuple [.Name y py, .Name z pz] kt pt] (.Tuple [.Call (.Name x p) (a :: as) [] pos, b] k2 pt2) pos'.line X.env = pure false := by rfl) :
    XS X cs E (.Assign [.Tuple [.Name y py, .Name z pz] kt pt] (.Tuple [.Call (.Name x p) (a :: as) [] pos, b] k2 pt2) pos') (rCall fs rx) :=
  PS.imp (ps_par hcalm hnd hN hN2 hij hy hz (pa_cons (pe_callXX G hj hr hgd tk hg ha hdb he hpl) (pa_cons hb pa_nil he3) he2) hw hs) fun D σ H h => h
end
end
theorem spX_len {K : Fg} {cs : Nat → Addr} {rx : RX} {n : Nat} (h : ∀ ds, ds.length ≠ n → rx ds = none) : ∀ vs H Q E, spX K cs rx vs H Q E → vs.length = n := fun vs H Q E ⟨ds, Hb, m, d, rel, q, _⟩ => by
  have := rel.len
  simp only [List.length_map] at this
  rw [← this]
  by_cases z : ds.length = n
  · exact z
  · rw [h ds z] at q; cases q
theorem rDef_len {np N : Nat} {r : RR} : ∀ ds, ds.length ≠ np → rDef np N r ds = none := fun ds h => if_neg h
/-- a def from its body -/
theorem defX_of {P : Program} {w : World} {K : Fg} {mg : Str → Option Value} {base : Heap} {cs : Nat → Addr} {x : Str} {st : Stmt} {f : Addr} {fd : FuncData} {N ps : List Str} {k : Nat} {r : RR} (F : L2.Fun K x x st f fd) (hm : mg x = some (.ref f)) (S : FnScope N ps (defScope st))
    (b1 : ∀ (kV doc pm : Value) (an : Option Addr) (cdv ct : Value) (us : List Value), us.length = ps.length → bindArgs (PySem.W.fnOf x x (defArgs st) (defBody st) (defScope st) .none kV doc pm an cdv ct) ⟨us, []⟩ = pure (ps.zip us))
    (hb : ∀ (cdv : Value) (A : Around) (outer : List Env) (s : Shared) (H : Hp) (E : XK), Ok (xX P w K mg base N x st f cdv A outer s H E) k → Takes (xX P w K mg base N x st f cdv A outer s H E) (fun cls d _ H => E cls d H) →
      XSs (xX P w K mg base N x st f cdv A outer s H E) cs E (defBody st) r) :
    DefX P w K mg base cs (k + 1) x ps (rDef ps.length N.length r) := by
  have hpl : ps.length ≤ N.length := by
    have q := congrArg List.length S.pre
    rw [List.length_take] at q
    omega
  refine ⟨f, fd, fnX_of F S (spX_len rDef_len) fun cdv A outer s H vs Q E ok tk hsp => ⟨_, hb cdv A outer s H E ok tk, ?_⟩, hm, F.kp, F.binds b1⟩
  obtain ⟨ds, Hb, n, d, rel, q, k⟩ := hsp
  simp only [rDef] at q
  split at q
  · rename_i hl
    refine ⟨_, Hb, n, d, start_rel (N := N) (np := ps.length) rel (by simpa using hl) hpl, ?_, q, k⟩
    refine List.all_eq_true.mpr fun s hs => ?_
    rcases List.mem_append.mp hs with h | h
    · obtain ⟨s', h', rfl⟩ := List.mem_map.mp h
      obtain ⟨d', _, rfl⟩ := List.mem_map.mp h'
      rfl
    · rw [(List.mem_replicate.mp h).2]
  · cases q
end Xc

/-! A list comprehension without tests: its block is told the maker's state -/
namespace Xc
open PySem PySem.Spec PyProof.Rows L2 LamX Sa
section
variable {X : Cx} {pins : List (Addr × Obj)} {σ : L2.St}
/-- what holds between two turns of the block Z -/
def Btw (Z : Cx) (σw : L2.St) (fp : List Addr) (tn : Nat → Heap → Prop) (W : Nat → Nat → Hp → Prop) (n : Nat) (s' : Shared) : Prop :=
  ∃ i Hc, Inv Z [] σw Hc s' ∧ tn i s'.heap ∧ (∀ b ∈ fp, Hc b = none) ∧ W i n Hc
theorem lcI_core {s : Shared} {H : Hp} {Q : VK} {Qf : Value → Shared → Prop} {elt tg iter : Expr} {scope : Scope} {own : List (Str × Nat)} {pos pos' : Pos} {wi : TI} {g : TG} {te : TE} (calm : X.calm = true) (nd : X.N.Nodup) (I : Inv X pins σ H s) (hi : PI X tg iter wi) (bk : BlkOk X.N X.env.scope scope own)
    (hg : ∀ (s : Shared) (H : Hp) (C : Addr) (cl : List (Str × Addr)) (fp : List Addr), PG (X.blk s H scope (compEnvC scope cl C X.env) fp) tg g)
    (he : ∀ (s : Shared) (H : Hp) (C : Addr) (cl : List (Str × Addr)) (fp : List Addr), Inv X pins σ H s → (∀ b ∈ fp, FpOk X pins H b ∧ b < s.heap.objs.size) → PE (X.blk s H scope (compEnvC scope cl C X.env) fp) elt te) (hs : ∀ x, foldedSetIterable iter X.env x = pure x)
    (h : tLc wi g tYes te (own.map (·.2)) σ H Q)
    (back : ∀ D C s' m H', Inv X pins σ H' s' → Q (.ref D) H' → s'.heap.Ns C m → FpOk X pins H' C → compPost (model X.prog X.w) X.A X.xe none Qf (.ref D) C (.ok .next) s') :
    wpAny (model X.prog X.w) X.A (comprehension (.ListComp elt [⟨tg, iter, [], 0⟩] scope pos) scope X.env pos' (newList []) false (eval iter X.env) none) Qf X.xe s := by
  have cap : ∀ y ∈ scope.names, y.2 = .free → ∃ c, X.env.cells.lookup y.1 = some c := fun y hy e => (bk.free y hy e).elim (fun k => I.ok.has _ (.inl k)) fun k => I.ok.has _ (.inr k)
  refine wpAny_comprehension_free (use := none) rfl hs (closure_ok cap) bk.kind (fun y hy e => by rw [bk.uniq y hy, e]) (thn (hi.run pins s σ H _ I h) fun _ _ hx => thn hx fun _ sa ⟨it, fp, tn, J, Ha, e0, Ia, T, sta, fa, q⟩ => ?_)
  subst e0
  refine wpAny_newObj_type (newEnv_comp ?_) (Nat.zero_le _)
  -- the new list, laid
  obtain ⟨L, hL⟩ : ∃ L, L = sa.heap.objs.size := ⟨_, rfl⟩
  have nL : Ha L = none := Ia.hok.fresh (Nat.le_of_eq hL.symm)
  obtain ⟨W, ⟨m0, w0⟩, turn⟩ := q L nL
  obtain ⟨sb, hb⟩ : ∃ sb : Shared, sb = { sa with heap := sa.heap.push { cls := .type "list", data := .seq ([] : List Value).toArray } } := ⟨_, rfl⟩
  have hpb : sb.heap = sa.heap.push { cls := .type "list", data := .seq ([] : List Value).toArray } := by rw [hb]
  have kb : ∀ b o, sa.heap.get? b = some o → sb.heap.get? b = some o := fun b o e => by rw [hpb]; exact Heap.get?_push_of_some _ e
  have Ib : Inv X pins σ (upd Ha L (.lst [])) sb := by
    have z := Ia.laid (t' := sa.toks) (a := L) (o := .lst []) (h' := sb.heap) kb (Nat.le_of_eq hL.symm) ⟨Nat.zero_le _, [], 0, .nil, by rw [hpb, hL]; exact Heap.get?_push_size _ rfl⟩
    rw [hb] at z ⊢
    exact z
  have fb : ∀ b ∈ fp, FpOk X pins (upd Ha L (.lst [])) b ∧ b < sb.heap.objs.size := fun b m => by
    obtain ⟨o, e, _⟩ := T.obj _ _ sta b m
    have lt := Heap.lt_size e
    refine ⟨⟨?_, (fa b m).2⟩, by rw [hpb, Heap.size_push]; exact Nat.lt_succ_of_lt lt⟩
    rw [upd_ne (by rw [hL]; exact Nat.ne_of_lt lt)]
    exact (fa b m).1
  have stb : tn 0 sb.heap := T.keep _ _ _ sta fun b _ o e => kb b o e
  have Ic := block_start Ib bk nd fb
  have PGg := hg sb (upd Ha L (.lst [])) sb.heap.objs.size (cellsFrom (sb.heap.objs.size + 1) scope.names (cloFrom X.env.cells scope.names [])) fp
  have PEe := he sb (upd Ha L (.lst [])) sb.heap.objs.size (cellsFrom (sb.heap.objs.size + 1) scope.names (cloFrom X.env.cells scope.names [])) fp Ib fb
  rw [← hL, ← hb]
  obtain ⟨ce, hce⟩ : ∃ ce, ce = compEnvC scope (cellsFrom (sb.heap.objs.size + 1) scope.names (cloFrom X.env.cells scope.names [])) sb.heap.objs.size X.env := ⟨_, rfl⟩
  have ceL : ce.locals = sb.heap.objs.size := by rw [hce]; rfl
  obtain ⟨Hb, hHb⟩ : ∃ Hb, Hb = upd Ha L (.lst []) := ⟨_, rfl⟩
  rw [← hHb] at Ib fb Ic PGg PEe w0
  rw [← hce] at Ic PGg PEe
  obtain ⟨sc, hsc⟩ : ∃ sc : Shared, sc = { sb with heap := pushCells (sb.heap.push { cls := .type "dict", data := .dict #[] }) scope.names } := ⟨_, rfl⟩
  rw [← hsc] at Ic ⊢
  show codeAny _ _ (.compStart (.ListComp elt [⟨tg, iter, [], 0⟩] scope pos) 0 (.ref it) (.ref L) (compEnvC scope (cellsFrom (sb.heap.objs.size + 1) scope.names (cloFrom X.env.cells scope.names [])) sb.heap.objs.size X.env)) (compPost (model X.prog X.w) X.A X.xe none Qf (.ref L) sb.heap.objs.size) sc
  rw [← hce]
  let Z : Cx := X.blk sb Hb scope ce fp
  have stc : tn 0 sc.heap := T.keep _ _ _ stb fun b _ o e => by rw [hsc]; exact pushCells_keeps _ _ _ _ (Heap.get?_push_of_some _ e)
  have free0 : ∀ b ∈ fp, Hb b = none := fun b m => (fb b m).1.1
  have calmF : ∀ {σ' : L2.St} {H' : Hp} {s' : Shared}, Inv Z [] σ' H' s' → (∀ b ∈ fp, H' b = none) → ∀ b ∈ fp, FpOk Z [] H' b := fun J n b m =>
    ⟨n b m, (J.ok.exf b m).1, J.ok.exfs b m, .inl m, fun x c e => (J.ok.exf b m).2 x c e, fun p hp => nomatch (show p ∈ ([] : List (Addr × Obj)) from hp)⟩
  have loop : codeAny (model X.prog X.w) X.A (.compLoop (.ListComp elt [⟨tg, iter, [], 0⟩] scope pos) 0 (.ref it) (.ref L) ce) (compPost (model X.prog X.w) X.A X.xe none Qf (.ref L) sb.heap.objs.size) sc := by
    refine compLoop_any (Btw Z (wipe σ (own.map (·.2))) fp tn W) (fun n sd ⟨i, Hd, Id, std, nd', wd⟩ => ?_) m0 ⟨0, Hb, Ic, stc, free0, w0⟩
    cases turn i n Hd wd with
    | inl z =>
      refine thnF (T.done Z rfl rfl rfl calm i [] sd _ Hd (fun _ _ => False) Id (calmF Id nd') std z.1) fun r se ⟨hr, Ie⟩ => ?_
      subst hr
      have home : Inv X pins σ Hd se := Ib.call' (ch := fp) Ie.os Ie.base Ie.hok Ie.bare fun b m => by
        obtain ⟨⟨_, f1, f2, f3, f4, f5⟩, _⟩ := fb b m
        exact ⟨f3, f1, f4, f5⟩
      have nC : Hd sb.heap.objs.size = none := by
        rw [← ceL]; exact Ie.free
      obtain ⟨m, hn, _⟩ := Ie.loc
      exact back L sb.heap.objs.size se m Hd home z.2 (by rw [← ceL]; exact hn) (Ib.fpOk (Nat.le_refl _) nC)
    | inr z =>
      obtain ⟨go, Nx, hNx, step⟩ := z
      refine thnF (T.item Z rfl rfl rfl calm i [] sd _ Hd (fun _ _ => False) Id (calmF Id nd') std go) fun r se ⟨u, hr, hse⟩ => ?_
      subst hr
      refine thnF hse fun _ sf ⟨x, Hf, If, rx, yx, stf, nf⟩ => ?_
      refine thnF (PGg.run _ sf _ Hf x u _ (If.pinned (calmF If nf) (T.obj _ _ stf)) rx (step x Hf yx)) fun _ sg ⟨σg, Hg, Ig, hw, qg⟩ => ?_
      refine thnF ((pts_nil (X := Z)).run _ sg σg Hg _ Ig qg) fun b sh ⟨Hh, Ih, qh⟩ => ?_
      have next : ∀ {s' : Shared} {H' : Hp}, Inv Z ([] ++ pinsAt fp sf.heap) σg H' s' → Nx H' → ∃ m, m < n ∧ Btw Z (wipe σ (own.map (·.2))) fp tn W m s' := fun {s' H'} I' nx => by
        obtain ⟨m', lt, w'⟩ := hNx H' nx
        have held : ∀ b ∈ fp, ∀ o, sf.heap.get? b = some o → s'.heap.get? b = some o ∧ H' b = none := fun b m o e => by
          obtain ⟨p1, p2, _⟩ := I'.pin (b, o) (List.mem_append_right _ (List.mem_append_right _ (mem_pinsAt m e)))
          exact ⟨p1, p2⟩
        refine ⟨m', lt, i + 1, H', (I'.unpinned (pins := [])).weak (by rw [← hw, wipe_length]) (fun j v e => by rw [← hw] at e; exact (wipe_some e).1), T.keep _ _ _ stf fun b m o e => (held b m o e).1, fun b m => ?_, w'⟩
        obtain ⟨o, e, _⟩ := T.obj _ _ stf b m
        exact (held b m o e).2
      cases b with
      | false => exact next Ih (by simpa using qh)
      | true =>
        rw [if_pos rfl] at qh
        exact thnF (PEe.run _ sh σg Hh _ Ih qh) fun z sk ⟨yv, Hk, Ik, rk, acc, hLk, hz, nx⟩ => app_ok (X := Z) Ik hLk hz rk fun sl Il => next Il nx
  exact codeAny_compStart_list loop (T.self X.A 0 _ _ _ stc loop)
/-- as a value: the elements' reading may lean on the slots at the block's start -/
theorem pe_lcI {elt tg iter : Expr} {scope : Scope} {own : List (Str × Nat)} {pos : Pos} {wi : TI} {g : TG} {te : L2.St → TE} (calm : X.calm = true) (nd : X.N.Nodup) (hi : PI X tg iter wi) (bk : BlkOk X.N X.env.scope scope own)
    (hg : ∀ (s : Shared) (H : Hp) (C : Addr) (cl : List (Str × Addr)) (fp : List Addr), PG (X.blk s H scope (compEnvC scope cl C X.env) fp) tg g)
    (he : ∀ (pins : List (Addr × Obj)) (σ : L2.St) (s : Shared) (H : Hp) (C : Addr) (cl : List (Str × Addr)) (fp : List Addr), Inv X pins σ H s → (∀ b ∈ fp, FpOk X pins H b ∧ b < s.heap.objs.size) → PE (X.blk s H scope (compEnvC scope cl C X.env) fp) elt (te σ))
    (hs : ∀ x, foldedSetIterable iter X.env x = pure x := by intro _; rfl) :
    PE X (.ListComp elt [⟨tg, iter, [], 0⟩] scope pos) (fun σ H Q => tLc wi g tYes (te σ) (own.map (·.2)) σ H Q) := by
  refine ⟨fun pins s σ H Q I h => ?_⟩
  rw [eval_ListComp]
  refine lcI_core calm nd I hi bk hg (he pins σ) hs h fun D C s' m H' I' q hn f => ⟨m, hn, fun h2 same => ?_⟩
  obtain ⟨a0, a1, a2, a3, a4, a5⟩ := f
  exact ⟨.ref D, H', I'.turned (t' := s'.toks) (fun b o ne e => (same.2 b ne).trans e) a0 a1 a3 a4 a5, rfl, q⟩
end
end Xc

/-! Lambdas as values; a context over a greater base -/
namespace Xc
open PySem PySem.Spec PyProof.Rows L2 LamX Sa
/-- at f: the function object F -/
def LamO (f : Addr) (F : Obj) : HO := .ext fun h => h.get? f = some F
theorem lamO_ne {f : Addr} {F : Obj} (ps : Array Value) : LamO f F ≠ .tbl ps := fun z => by
  unfold LamO at z
  cases z
theorem lamO_at {P : Program} {w : World} {H : Hp} {h : Heap} {f : Addr} {F : Obj} (hok : HOk P w H h) (e : H f = some (LamO f F)) : h.get? f = some F := (hok f _ e).1
theorem lamO_ok {P : Program} {w : World} {H : Hp} {h : Heap} {f : Addr} {F : Obj} (e : h.get? f = some F) : ObjOk P w H h f (LamO f F) := ⟨e, ⟨F, e⟩, fun _ _ q k => k F q⟩
abbrev lamObj (X : Cx) (pa : Arguments) (bd : Expr) (sc : Scope) (pm : Value) (cN : Addr) (ctv : Value) : Obj := PySem.W.kla_obj "<lambda>" (X.env.qual ++ "<lambda>") pa bd sc (cloFrom X.env.cells sc.names []) pm cN ctv
/-- lambda: body, as a value -/
def tLamO (X : Cx) (T : List (Addr × Str)) (pa : Arguments) (bd : Expr) (sc : Scope) : TE := fun σ H Q => Tabs T H ∧ ∀ HN f cN pm ctv, Gw H HN → Tabs T HN → HN f = none → HN cN = some (CodeO cN (X.env.qual ++ "<lambda>")) → Q (.ref f) (upd HN f (LamO f (lamObj X pa bd sc pm cN ctv)))
section
variable {X : Cx} {pins : List (Addr × Obj)} {σ : L2.St} {H : Hp} {s : Shared}
theorem pe_lamO {T : List (Addr × Str)} {c P : Addr} {pa : Arguments} {bd : Expr} {sc : Scope} {lp : Pos} (tab : TabB X.base X.mg c P) (code : X.env.code = .ref c)
    (mem : (P, X.env.qual ++ "<lambda>") ∈ T) (one : ∀ p ∈ T, p.1 = P → p.2 = X.env.qual ++ "<lambda>") (L : LamS X.env.scope sc) (dft : defaultsOf pa X.env = ([], [])) : PE X (.Lambda pa bd sc lp) (tLamO X T pa bd sc) := by
  refine ⟨fun pins s σ H Q I ⟨all, w⟩ => lam_gw I tab code mem one all dft (L.has I.ok) fun f cN pm ctv HN sN IN gw TN hf hfn hfr hco hsz => ?_⟩
  have lt0 : ∀ {b : Addr} {o : Obj}, s.heap.get? b = some o → b ≠ f := fun e z => absurd (Nat.lt_of_lt_of_le (Heap.lt_size e) hsz) (by rw [z]; exact Nat.lt_irrefl _)
  have J := track (a := f) (o := LamO f (lamObj X pa bd sc pm cN ctv)) IN hfn (Heap.get?_none_of_le (Nat.le_trans I.sz hsz)) (Ne.symm (Nat.ne_of_lt (Nat.lt_of_lt_of_le I.lt hsz)))
    (fun x c e z => by
      obtain ⟨v, o, ho, _⟩ := I.cell x c e
      exact lt0 ho z.symm)
    (fun p hp z => lt0 (I.pin p hp).1 z) (lamO_ok hf)
  exact ⟨.ref f, _, J, rfl, w HN f cN pm ctv gw TN hfn hco⟩
/-! ### a greater base -/
abbrev Cx.reb (Z : Cx) (B : Heap) : Cx := { Z with base := B }
theorem ok_reb {Z : Cx} {B : Heap} (ok : Z.Ok) (hB : ∀ b o, Z.base.get? b = some o → B.get? b = some o) (h0 : ∀ b o, B.get? b = some o → Z.s_0.heap.get? b = some o ∧ Z.H_0 b = none) (hsz : B.objs.size ≤ Z.s_0.heap.objs.size)
    (hx : ∀ b o, B.get? b = some o → b ∉ Z.ex) (hf : ∀ b ∈ Z.fs, B.get? b = none) : (Xc.Cx.reb Z B).Ok := by
  obtain ⟨mb, b1, b2⟩ := ok.mod.blt
  exact ⟨⟨ok.mod.kin.keeps hB, ok.mod.glob.keeps hB, ⟨mb, b1.keeps hB, b2⟩, ok.mod.nolimit.keeps hB⟩, ok.kind, ok.glob, ok.blt, ok.above, ok.inj, ok.has, ok.cab, ok.hd, ok.frames, ok.stk, ok.exf, h0, hsz, hx, ok.exfs, funFrames_none ok.funs hf, ok.frf⟩
theorem inv_reb {Z : Cx} {B : Heap} (ok : (Xc.Cx.reb Z B).Ok) (I : Inv Z pins σ H s) : Inv (Xc.Cx.reb Z B) pins σ H s := ⟨ok, I.os, I.bare, I.base, I.loc, I.cell, I.free, I.freeC, I.pin, I.hok, I.len⟩
theorem inv_unreb {Z : Cx} {B : Heap} (ok : Z.Ok) (I : Inv (Xc.Cx.reb Z B) pins σ H s) : Inv Z pins σ H s := ⟨ok, I.os, I.bare, I.base, I.loc, I.cell, I.free, I.freeC, I.pin, I.hok, I.len⟩
theorem pe_reb {Z : Cx} {B : Heap} {e : Expr} {t : TE} (ok : Z.Ok → (Xc.Cx.reb Z B).Ok) (h : PE (Xc.Cx.reb Z B) e t) : PE Z e t := ⟨fun pins s σ H Q I q =>
  wpAny_mono (h.run pins s σ H Q (inv_reb (ok I.ok) I) q) (fun u s1 ⟨v, H1, I1, r, q⟩ => ⟨v, H1, inv_unreb I.ok I1, r, q⟩) fun _ _ z => z⟩
/-- the base and the cells, as they stand in h -/
theorem base_cells (h base : Heap) (cells : List (Str × Addr)) (hb : ∀ b o, base.get? b = some o → h.get? b = some o) : ∃ B : Heap, (∀ b o, base.get? b = some o → B.get? b = some o) ∧ (∀ x c, cells.lookup x = some c → B.get? c = h.get? c) ∧
    (∀ b o, B.get? b = some o → h.get? b = some o ∧ (base.get? b = some o ∨ ∃ x, (x, b) ∈ cells)) ∧ B.objs.size = h.objs.size := by
  obtain ⟨l, hl⟩ : ∃ l : List Addr, l = (List.range h.objs.size).filter fun b => !((base.get? b).isSome || cells.any fun p => p.2 == b) := ⟨_, rfl⟩
  have nin : ∀ {b : Addr}, ((base.get? b).isSome || cells.any fun p => p.2 == b) = true → b ∉ l := fun {b} q m => by
    rw [hl] at m
    have z := (List.mem_filter.mp m).2
    rw [q] at z
    cases z
  refine ⟨PySem.W.hideAll h l, fun b o e => PySem.W.hideAll_get l (hb b o e) (nin (by rw [e]; rfl)), fun x c e => ?_, fun b o e => ⟨PySem.W.of_hideAll l e, ?_⟩, PySem.W.hideAll_size _ _⟩
  · have m := PySem.mem_of_lookup e
    have q : c ∉ l := nin (by rw [Bool.or_eq_true]; exact .inr (List.any_eq_true.mpr ⟨_, m, by simp⟩))
    cases z : h.get? c with
    | some o => exact PySem.W.hideAll_get l z q
    | none =>
      cases y : (PySem.W.hideAll h l).get? c with
      | none => rfl
      | some o => rw [PySem.W.of_hideAll l y] at z; cases z
  · have e' := PySem.W.of_hideAll l e
    by_cases q : ((base.get? b).isSome || cells.any fun p => p.2 == b) = true
    · rcases Bool.or_eq_true _ _ ▸ q with q | q
      · obtain ⟨o', ho⟩ := Option.isSome_iff_exists.mp q
        have := hb b o' ho
        rw [e'] at this; cases this
        exact .inl ho
      · obtain ⟨p, hp, z⟩ := List.any_eq_true.mp q
        have z : p.2 = b := by simpa using z
        exact .inr ⟨p.1, by rw [← z]; exact hp⟩
    · have m : b ∈ l := by
        rw [hl]
        exact List.mem_filter.mpr ⟨List.mem_range.mpr (Heap.lt_size e'), by rw [Bool.not_eq_true] at q; rw [q]; rfl⟩
      rw [PySem.W.hideAll_none l m] at e; cases e
theorem env0_down {P : Program} {w : World} {K : Fg} {mg : Str → Option Value} {base B : Heap} {A : Around} {outer : List Env} (e0 : Env0 P w K mg B A outer s H) (mod : Mod K mg base) (hB : ∀ b o, base.get? b = some o → B.get? b = some o) (hsz : base.objs.size ≤ B.objs.size) : Env0 P w K mg base A outer s H :=
  have nf : ∀ L ∈ frs outer, base.get? L = none := fun L hL => by
    cases z : base.get? L with
    | none => rfl
    | some o =>
      have q := (e0.funs.mem hL).1
      rw [hB L o z] at q
      cases q
  ⟨e0.frames, mod, fun b o e => e0.bs b o (hB b o e), Nat.le_trans hsz e0.bsz, funFrames_none e0.funs nf, e0.frf, e0.hok, e0.bare⟩
/-! ### what a lambda promises -/
abbrev Sl0 := Hp → VK → XK → Prop
structure LamP (P : Program) (w : World) (K : Fg) (mg : Str → Option Value) (base : Heap) (k : Nat) (f : Addr) (sp : Sl0) : Prop where
  obj : ∀ H Q E, sp H Q E → ∃ (F : Obj) (fd : FuncData), H f = some (LamO f F) ∧ F.data = .func fd ∧ F.cls = .type "function"
  run : ∀ (A : Around) (outer : List Env) (s : Shared) (H : Hp) (Q : VK) (E : XK), Room k A → A.guards = some [] → Env0 P w K mg base A outer s H → sp H Q E → codeAny (model P w) A (.call (.ref f) ⟨[], []⟩) (CR (L2.CX P w) outer P w H s Q E) s
/-- the lambda's body begins, far from its maker -/
theorem lam_far {s3 s1 : Shared} {H3 H1 : Hp} {B : Heap} {A : Around} {outer : List Env} {E : XK} {scope : Scope} {f c' : Addr} {h₁ : Heap} {tk : Nat} (I : Inv X pins σ H3 s3) (L : LamS X.env.scope scope)
    (e0 : Env0 X.prog X.w X.K X.mg B A outer s1 H1) (hB : ∀ b o, X.base.get? b = some o → B.get? b = some o) (hsz : X.base.objs.size ≤ B.objs.size) (hC : ∀ x c, X.env.cells.lookup x = some c → B.get? c = s3.heap.get? c) (hd : A.handled = none)
    (hns : h₁.Ns s1.heap.objs.size fun y => ([] : List (Str × Value)).reverse.lookup y) (kp : ∀ b o, s1.heap.get? b = some o → h₁.get? b = some o) :
    Inv (lamCx X A outer s1 H1 E scope f c') [] σ H1 { s1 with heap := h₁, toks := tk } := by
  have e1 := env0_down e0 I.ok.mod hB hsz
  have seen : ∀ {y c}, (cloFrom X.env.cells scope.names []).lookup y = some c → X.env.cells.lookup y = some c := fun {y c} e => by
    rcases cloFrom_mem (PySem.mem_of_lookup e) with m | ⟨m, ec⟩
    · cases m
    · obtain ⟨c1, h1⟩ := L.has I.ok _ m rfl
      have h1 : X.env.cells.lookup y = some c1 := h1
      rw [ec, h1]
      rfl
  have caught : ∀ {y}, scope.names.lookup y = some .free → ∃ c, (cloFrom X.env.cells scope.names []).lookup y = some c := fun {y} hl =>
    mem_lookup (cloFrom_has (cells := X.env.cells) (acc := []) (show (y, NameKind.free) ∈ scope.names from PySem.mem_of_lookup hl))
  have cellB : ∀ {y : Str} {c : Addr} {v : Option Value}, X.env.cells.lookup y = some c → s3.heap.IsCell c v → s1.heap.IsCell c v ∧ H1 c = none := fun {y c v} e ⟨o, ho, hd⟩ => by
    obtain ⟨q1, q2⟩ := e0.bs c o ((hC y c e).trans ho)
    exact ⟨⟨o, q1, hd⟩, q2⟩
  have nex : ∀ b : Addr, b ∉ (lamCx X A outer s1 H1 E scope f c').ex := fun b z => (nomatch (show b ∈ ([] : List Addr) from z))
  refine ⟨⟨e1.mod, L.kind, rfl, rfl, Nat.le_refl _, fun y z c p q => I.ok.inj y z c (seen p) (seen q), fun y hy => ?_, fun y c z _ => (nomatch (show false = true from z)), fun _ => hd, Around.frames_deeper e1.frames, .inr ⟨rfl, rfl⟩, fun b z => absurd z (nex b), e1.bs, e1.bsz, fun b _ _ => nex b,
      fun b z => absurd z (nex b), e1.funs, e1.frf⟩, rfl, e1.bare, Un.kept kp, ⟨_, hns, fun i y v p1 p2 p3 => ?_⟩, fun y c e => ?_, e1.hok.fresh (Nat.le_refl _), fun y c e => ?_, fun q hq => (nomatch (show q ∈ ([] : List (Addr × Obj)) from hq)), e1.hok.kept kp, I.len⟩
  · rcases (show scope.names.lookup y = some .cell ∨ scope.names.lookup y = some .free from hy) with k | k
    · exact absurd rfl (L.own _ (PySem.mem_of_lookup k)).2
    · exact caught k
  · rcases (show Vis scope y from p3) with k | k | k
    · exact absurd rfl (L.own _ (PySem.mem_of_lookup k)).1
    · exact absurd rfl (L.own _ (PySem.mem_of_lookup k)).2
    · obtain ⟨m, hn, hl⟩ := I.loc
      have fr := L.free _ (PySem.mem_of_lookup k) rfl
      obtain ⟨u, r, q⟩ := hl i y v p1 p2 (fr.elim (fun k => .inr (.inl k)) fun k => .inr (.inr k))
      obtain ⟨c2, h2⟩ := caught k
      refine ⟨u, r, .inr ⟨.inr k, c2, h2, ?_⟩⟩
      rcases q with ⟨k', _⟩ | ⟨_, c3, e', z⟩
      · have k' : X.env.scope.names.lookup y = some .local := k'
        rcases fr with k2 | k2 <;> rw [show X.env.scope.names.lookup y = _ from k2] at k' <;> cases k'
      · rw [seen h2] at e'
        cases e'
        exact (cellB (seen h2) z).1.keeps kp
  · obtain ⟨v, z⟩ := I.cell y c (seen e)
    exact ⟨v, (cellB (seen e) z).1.keeps kp⟩
  · obtain ⟨v, z⟩ := I.cell y c (seen e)
    exact (cellB (seen e) z).2
theorem lamP_of {s3 : Shared} {H3 : Hp} {B : Heap} {pa : Arguments} {bd : Expr} {sc : Scope} {f cN : Addr} {pm ctv : Value} {k : Nat} {t : XK → TE} (I : Inv X pins σ H3 s3) (L : LamS X.env.scope sc) (hB : ∀ b o, X.base.get? b = some o → B.get? b = some o) (hsz : X.base.objs.size ≤ B.objs.size)
    (hC : ∀ x c, X.env.cells.lookup x = some c → B.get? c = s3.heap.get? c)
    (bnd : ∀ (q : Str) (clo : List (Str × Addr)) (pm cv ctv : Value), bindArgs (PySem.W.kla_fn "<lambda>" q pa bd sc clo pm cv ctv) ⟨[], []⟩ = pure [])
    (hbd : ∀ (A : Around) (outer : List Env) (s : Shared) (H : Hp) (E : XK), A.guards = some [] → Room k (A.deeper (lamEnv X sc s.heap.objs.size f cN)) → PE (lamCx X A outer s H E sc f cN) bd (t E)) :
    LamP X.prog X.w X.K X.mg B (k + 1) f (fun H Q E => H f = some (LamO f (lamObj X pa bd sc pm cN ctv)) ∧ H cN = some (CodeO cN (X.env.qual ++ "<lambda>")) ∧ t E σ H Q) := by
  refine ⟨fun H Q E h => ⟨_, _, h.1, rfl, rfl⟩, fun A outer s H Q E hr hg e0 ⟨hf, hc, ht⟩ => ?_⟩
  have atF := lamO_at e0.hok hf
  obtain ⟨⟨ob, us, tN, hob, hdt, hus⟩, _, _⟩ := e0.hok cN _ hc
  have lim : s.heap.NoLimit := e0.mod.nolimit.keeps fun b o e => (e0.bs b o e).1
  refine PySem.W.kla_callFunE hr.depth atF rfl L.co L.gen rfl ⟨cN, ob, us, tN, rfl, hob, hdt, hus⟩ ?_
  rw [bnd]
  refine wpAny_pure (wpAny_newFunctionEnv (fun y hy => (L.own y hy).2) (fun y hy => absurd hy (by simp)) (fun hN hnsN hsbN => ⟨lim.fresh _ hsbN, ?_⟩) L.kind)
  show codeAny _ _ (.expr bd (lamEnv X sc s.heap.objs.size f cN)) _ _
  have J : Inv (lamCx X A outer s H E sc f cN) [] σ H { s with heap := hN, toks := s.toks + ([] : List (Str × Value)).length } :=
    lam_far I L e0 hB hsz hC hr.hd hnsN fun b o z => hsbN.extBut b o (Nat.ne_of_lt (Heap.lt_size z)) (Heap.get?_push_of_some _ z)
  exact PySem.W.kla_codeExpr (wpAny_mono ((hbd A outer s H E hg (hr.deeper _)).run [] _ _ H Q J ht) (fun v s2 ⟨y, H2, J2, ry, q⟩ => ⟨y, H2, J2.os, J2.bare, J2.base, J2.hok, ry, q⟩) fun _ _ q => q)
end
end Xc

namespace Sa
open PySem L2 PySem.Spec PyProof.Rows
open Evl (Ex)
/-! [..] * k -/
def sRepL (f g : SE) : SE := fun ρ => (evs [f, g] ρ).bind fun rs ρ1 => match rs with
  | [.new (.lst ds), .val (.int k)] => if 0 ≤ k ∧ k ≤ 100 ∧ ds.length ≤ 1000 then .ok (.new (.lst (List.replicate k.toNat ds).flatten)) ρ1 else .bad
  | _ => .bad
section
variable {X : Cx} {a b : Expr} {f g : SE} {pos : Pos} {K : Fg} {σ : L2.St} {H : Hp} {Q : VK}
theorem RepL.reps {Hb : Hp} {ds : List D} {xs : List V} (h : RepL K Hb ds xs) : ∀ m : Nat, RepL K Hb (List.replicate m ds).flatten (List.replicate m xs).flatten
  | 0 => rfl
  | m + 1 => by
    rw [List.replicate_succ, List.replicate_succ, List.flatten_cons, List.flatten_cons]
    exact h.app (RepL.reps h m)
theorem tE_repL (w : tE K (sRepL f g) σ H Q) : tOp rRep (tE K f) (tE K g) σ H Q := by
  have key : tA K [f, g] σ H (fun vs H1 => ∃ x y, vs = [x, y] ∧ rRep x y H1 Q) := by
    obtain ⟨ρ, Hb, rel, w⟩ := w
    refine ⟨ρ, Hb, rel, ?_⟩
    simp only [sRepL] at w
    cases e : evs [f, g] ρ with
    | bad => simp only [e, Rs.bind_bad] at w; exact w.elim
    | ok rs ρ1 =>
      simp only [e, Rs.bind_ok] at w
      split at w
      · rename_i ds k
        intro vs H1 Hb1 s1 k1 r1 f1 _
        split at w
        · rename_i hk
          obtain ⟨v, t, rfl, ⟨l, rfl, ⟨xs, hx, hr⟩, hb, _⟩, v2, t2, rfl, h2, rfl⟩ := r1
          have h2 : Rep K Hb1 (.int k) v2 := h2
          obtain rfl : v2 = .int k := h2
          have hl := hr.len
          refine ⟨_, _, rfl, l, k, xs, rfl, rfl, hx, by omega, by omega, ?_, fun p hp => ?_⟩
          · rw [← hl]
            exact Evl.sz_of (Nat.le_trans (Nat.mul_le_mul hk.2.2 (show k.toNat ≤ 100 by omega)) (by decide))
          · have hbp := Evl.fresh_back s1.rel.ex hp
            have g1 := s1.rel.grow (H' := upd H1 p (.lst (List.replicate k.toNat xs).flatten)) (Hb' := Hb1) (Ex.new hp) (Ex.refl _) (s1.rel.ex.trans (Ex.new hp)) (fun _ _ => rfl)
            refine w (.ref p) _ (cl Hb1) (s1.trans g1) k1 ⟨p, rfl, ⟨_, upd_same, RepL.cl _ _ (hr.reps _)⟩, cl_none hbp, fun z => (s1.rel.own_some z).1 hp⟩ fun l' e => ?_
            cases e
            exact s1.al p hp
        · exact w.elim
      · exact w.elim
  refine tE_imp (tA_cons key) fun x H1 q => ?_
  refine tE_imp (tA_cons q) fun y H2 q => ?_
  obtain ⟨x', y', e, q⟩ := tA_nil q
  cases e
  exact q
theorem d_repL (ha : DE X a f) (hb : DE X b g) : DE X (.BinOp a .Mult b pos) (sRepL f g) := .of (PE.imp (pe_op op_rep ha.pe hb.pe) fun _ _ _ w => tE_repL w)
end
/-! ## The looks: each raises what it is told with -/
structure LE where
  fs : List SE
  rx : Xc.RX
  n : Nat
  val : SE
def dropO (ρ : Rho) : Rho := ρ.map fun s => match s with
  | .own _ _ => .non
  | s => s
def lab : Nat → Str
  | 0 => "sources"
  | 1 => "number"
  | 2 => "weights"
  | _ => "more"
def leOk (e : LE) (ρ : Rho) : Bool := match Xc.rCall e.fs e.rx (dropO ρ), e.val (dropO ρ) with
  | some (n, d), .ok (.val d') _ => n == e.n && decide (n < 4) && match nRepr [.tup [.lst [.str (lab n)], d]], nRepr [.tup [.lst [.str (lab n)], d']] with
    | some (.val (.str a)), some (.val (.str b)) => a == b
    | _, _ => false
  | _, _ => false
/-- the statements of the looks, and that all raise as told -/
def sLooks (es : List LE) (i : Nat) : SS := fun ρ => match ρ[i]? with
  | some .non => if es.all (fun e => leOk e ρ) = true then .nx ρ else .bad
  | _ => .bad
end Sa

namespace Sa
open PySem L2 PySem.Spec PyProof.Rows
/-! ## The text of the law and its program -/
def top (i : Nat) : Stmt := PySem.Challenge.pw_surelyahead_k63_what_sources_refuse.main.body.getD i (.Pass ⟨0, 0, 0, 0⟩)
structure Txt (mg : Str → Option Value) : Prop where
  b_abs : mg "abs" = none
  b_all : mg "all" = none
  b_any : mg "any" = none
  b_bool : mg "bool" = none
  b_enumerate : mg "enumerate" = none
  b_int : mg "int" = none
  b_isinstance : mg "isinstance" = none
  b_len : mg "len" = none
  b_list : mg "list" = none
  b_max : mg "max" = none
  b_min : mg "min" = none
  b_range : mg "range" = none
  b_repr : mg "repr" = none
  b_set : mg "set" = none
  b_sorted : mg "sorted" = none
  b_sum : mg "sum" = none
  b_tuple : mg "tuple" = none
  b_zip : mg "zip" = none
  c_MORE : ∃ t, mg "MORE" = some (.str "more" t)
  c_MOST_FAR : ∃ t, mg "MOST_FAR" = some (.int 99999 t)
  c_MOST_SOURCES : ∃ t, mg "MOST_SOURCES" = some (.int 20 t)
  c_MOST_TRUTH : ∃ t, mg "MOST_TRUTH" = some (.int 199998 t)
  c_MOST_WEIGHT : ∃ t, mg "MOST_WEIGHT" = some (.int 99 t)
  c_SPANS : ∃ t, mg "SPANS" = some (.str "spans" t)
section
variable {P : Program} {w : World} {K : Fg} {mg : Str → Option Value} {base : Heap} {cs : Nat → Addr} {Dc fI cc cda : Addr}
abbrev st__law_cells : Stmt := top 43
def body__law_cells : SS := sCons (sRet (sNat nLR1 [sNat nMax2 [sC (.int 1), sNat nMin2 [sVar 1, sNat nLen [sVar 0]]]])) (sNil)
def fn__law_cells : Fn := runDef 2 2 body__law_cells
theorem sc__law_cells : FnScope ["script", "most"] ["script", "most"] (defScope st__law_cells) := ⟨rfl, rfl, rfl, by decide +kernel, rfl, by decide +kernel, by decide +kernel⟩
theorem ok__law_cells (T : Txt mg) {f : Addr} {fd : FuncData} (F : L2.Fun K "_law_cells" "_law_cells" st__law_cells f fd) (hm : mg "_law_cells" = some (.ref f)) : Def P w K mg base 1 "_law_cells" ["script", "most"] fn__law_cells :=
  @def_of P w K mg base "_law_cells" st__law_cells f fd ["script", "most"] ["script", "most"] 0 body__law_cells F hm sc__law_cells (fun _ _ _ _ _ _ us hl => match us, hl with | [_, _], _ => rfl) (fun _ _ _ _ _ _ us hl => match us, hl with | [_, _], _ => rfl) fun cdv A outer s H ok => dss_cons (ds_ret (d_lr1 ok (by rfl) T.b_list (by rfl) T.b_range (d_callB (call_max2 ok.calm) n_max2 (by rfl) T.b_max bt_max (da_cons (d_int) (da_cons (d_callB (call_min2 ok.calm) n_min2 (by rfl) T.b_min bt_min (da_cons (d_var 1) (da_cons (d_callB cr_lenA n_len (by rfl) T.b_len bt_len (da_cons (d_var 0) (da_nil))) (da_nil)))) (da_nil)))))) (dss_nil)
abbrev st__law_pot : Stmt := top 44
def body__law_pot : SS := sCons (sAsg 2 (sIf (sNat nLt [sVar 1, sNat nLen [sVar 0]]) (sNat nIdx [sVar 0, sVar 1]) (sNat nAdd [sNat nMul [sC (.int 67), sVar 1], sC (.int 31)]))) (sCons (sAsg 3 (sNat nMul [sNat nMod [sNat nInt [sNat nAbs [sVar 2]], sNat nPow [sNat nPow [sC (.int 10), sC (.int 60)], sC (.int 5)]], sNat nInt [sNat nGe [sNat nAbs [sVar 2], sNat nPow [sC (.int 10), sC (.int 18)]]]])) (sCons (sAsg 4 (sNat nMod [sNat nInt [sVar 2], sC (.int 2305843009213693951)])) (sCons (sRet (sLst [sVar 3, sNat nMod [sNat nInt [sNat nAdd [sNat nAdd [sNat nMul [sVar 4, sC (.int 84391)], sNat nMul [sNat nMul [sC (.int 7369), sVar 1], sVar 1]], sC (.int 73)]], sC (.int 2305843009213693921)], sC (.int 0)])) (sNil))))
def fn__law_pot : Fn := runDef 2 5 body__law_pot
theorem sc__law_pot : FnScope ["script", "place", "cell", "own", "small"] ["script", "place"] (defScope st__law_pot) := ⟨rfl, rfl, rfl, by decide +kernel, rfl, by decide +kernel, by decide +kernel⟩
theorem ok__law_pot (T : Txt mg) {f : Addr} {fd : FuncData} (F : L2.Fun K "_law_pot" "_law_pot" st__law_pot f fd) (hm : mg "_law_pot" = some (.ref f)) : Def P w K mg base 1 "_law_pot" ["script", "place"] fn__law_pot :=
  @def_of P w K mg base "_law_pot" st__law_pot f fd ["script", "place", "cell", "own", "small"] ["script", "place"] 0 body__law_pot F hm sc__law_pot (fun _ _ _ _ _ _ us hl => match us, hl with | [_, _], _ => rfl) (fun _ _ _ _ _ _ us hl => match us, hl with | [_, _], _ => rfl) fun cdv A outer s H ok => dss_cons (ds_asg 2 ok.nd (d_if (d_cmp op_lt n_lt (d_var 1) (d_callB cr_lenA n_len (by rfl) T.b_len bt_len (da_cons (d_var 0) (da_nil)))) (d_ix (d_var 0) (d_var 1)) (d_op op_addA n_add (d_op op_mulX n_mul (d_int) (d_var 1)) (d_int)))) (dss_cons (ds_asg 3 ok.nd (d_op op_mulX n_mul (d_op op_mod n_mod (d_callT call_int1 n_int (by rfl) T.b_int bt_int (da_cons (d_callB call_abs n_abs (by rfl) T.b_abs bt_abs (da_cons (d_var 2) (da_nil))) (da_nil))) (d_op op_powA n_pow (d_op op_powA n_pow (d_int) (d_int)) (d_int))) (d_callT call_int1 n_int (by rfl) T.b_int bt_int (da_cons (d_cmp op_ge n_ge (d_callB call_abs n_abs (by rfl) T.b_abs bt_abs (da_cons (d_var 2) (da_nil))) (d_op op_powA n_pow (d_int) (d_int))) (da_nil))))) (dss_cons (ds_asg 4 ok.nd (d_op op_mod n_mod (d_callT call_int1 n_int (by rfl) T.b_int bt_int (da_cons (d_var 2) (da_nil))) (d_int))) (dss_cons (ds_ret (d_lst (da_cons (d_var 3) (da_cons (d_op op_mod n_mod (d_callT call_int1 n_int (by rfl) T.b_int bt_int (da_cons (d_op op_addA n_add (d_op op_addA n_add (d_op op_mulX n_mul (d_var 4) (d_int)) (d_op op_mulX n_mul (d_op op_mulX n_mul (d_int) (d_var 1)) (d_var 1))) (d_int)) (da_nil))) (d_int)) (da_cons (d_int) (da_nil)))))) (dss_nil))))
abbrev st__law_take : Stmt := top 40
def body__law_take : SS := sCons (sIfS (sNat nGt [sNat nIdx [sVar 0, sC (.int 0)], sC (.int 0)]) (sCons (sAsg 4 (sNat nMod [sNat nInt [sNat nIdx [sVar 0, sC (.int 0)]], sVar 1])) (sCons (sSetIx 0 (sC (.int 0)) (sNat nDiv [sNat nIdx [sVar 0, sC (.int 0)], sVar 1])) (sCons (sRet (sVar 4)) (sNil)))) (sNil)) (sCons (sSetIx 0 (sC (.int 2)) (sNat nAdd [sNat nIdx [sVar 0, sC (.int 2)], sC (.int 1)])) (sCons (sAsg 2 (sNat nIdx [sLst [sC (.int 2147483647), sC (.int 2147483629), sC (.int 2147483587), sC (.int 2147483579), sC (.int 2147483563)], sNat nMod [sNat nInt [sNat nIdx [sVar 0, sC (.int 2)]], sC (.int 5)]])) (sCons (sAsg 3 (sNat nMod [sNat nInt [sNat nPow [sNat nAdd [sNat nAdd [sNat nIdx [sVar 0, sC (.int 1)], sNat nMul [sNat nMul [sC (.int 97187), sNat nIdx [sVar 0, sC (.int 2)]], sNat nIdx [sVar 0, sC (.int 2)]]], sC (.int 47)], sC (.int 3)]], sVar 2])) (sCons (sAsg 3 (sNat nMod [sNat nInt [sNat nMul [sVar 3, sNat nAdd [sNat nMod [sNat nInt [sVar 3], sC (.int 10159)], sNat nMul [sC (.int 101), sNat nIdx [sVar 0, sC (.int 2)]]]]], sC (.int 2305843009213693907)])) (sCons (sRet (sNat nMod [sNat nInt [sNat nDiv [sVar 3, sC (.int 107)]], sVar 1])) (sNil))))))
def fn__law_take : Fn := runDef 2 5 body__law_take
theorem sc__law_take : FnScope ["pot", "upto", "prime", "made", "digit"] ["pot", "upto"] (defScope st__law_take) := ⟨rfl, rfl, rfl, by decide +kernel, rfl, by decide +kernel, by decide +kernel⟩
theorem ok__law_take (T : Txt mg) {f : Addr} {fd : FuncData} (F : L2.Fun K "_law_take" "_law_take" st__law_take f fd) (hm : mg "_law_take" = some (.ref f)) : Def P w K mg base 1 "_law_take" ["pot", "upto"] fn__law_take :=
  @def_of P w K mg base "_law_take" st__law_take f fd ["pot", "upto", "prime", "made", "digit"] ["pot", "upto"] 0 body__law_take F hm sc__law_take (fun _ _ _ _ _ _ us hl => match us, hl with | [_, _], _ => rfl) (fun _ _ _ _ _ _ us hl => match us, hl with | [_, _], _ => rfl) fun cdv A outer s H ok => dss_cons (ds_if (d_cmp op_gt n_gt (d_ix (d_var 0) (d_int)) (d_int)) (dss_cons (ds_asg 4 ok.nd (d_op op_mod n_mod (d_callT call_int1 n_int (by rfl) T.b_int bt_int (da_cons (d_ix (d_var 0) (d_int)) (da_nil))) (d_var 1))) (dss_cons (ds_setIx 0 (d_op op_fdivW n_div (d_ix (d_var 0) (d_int)) (d_var 1)) (d_int)) (dss_cons (ds_ret (d_var 4)) (dss_nil)))) (dss_nil)) (dss_cons (ds_setIx 0 (d_op op_addA n_add (d_ix (d_var 0) (d_int)) (d_int)) (d_int)) (dss_cons (ds_asg 2 ok.nd (d_ix (d_lst (da_cons (d_int) (da_cons (d_int) (da_cons (d_int) (da_cons (d_int) (da_cons (d_int) (da_nil))))))) (d_op op_mod n_mod (d_callT call_int1 n_int (by rfl) T.b_int bt_int (da_cons (d_ix (d_var 0) (d_int)) (da_nil))) (d_int)))) (dss_cons (ds_asg 3 ok.nd (d_op op_mod n_mod (d_callT call_int1 n_int (by rfl) T.b_int bt_int (da_cons (d_op op_powA n_pow (d_op op_addA n_add (d_op op_addA n_add (d_ix (d_var 0) (d_int)) (d_op op_mulX n_mul (d_op op_mulX n_mul (d_int) (d_ix (d_var 0) (d_int))) (d_ix (d_var 0) (d_int)))) (d_int)) (d_int)) (da_nil))) (d_var 2))) (dss_cons (ds_asg 3 ok.nd (d_op op_mod n_mod (d_callT call_int1 n_int (by rfl) T.b_int bt_int (da_cons (d_op op_mulX n_mul (d_var 3) (d_op op_addA n_add (d_op op_mod n_mod (d_callT call_int1 n_int (by rfl) T.b_int bt_int (da_cons (d_var 3) (da_nil))) (d_int)) (d_op op_mulX n_mul (d_int) (d_ix (d_var 0) (d_int))))) (da_nil))) (d_int))) (dss_cons (ds_ret (d_op op_mod n_mod (d_callT call_int1 n_int (by rfl) T.b_int bt_int (da_cons (d_op op_fdivW n_div (d_var 3) (d_int)) (da_nil))) (d_var 1))) (dss_nil))))))
abbrev st__law_of : Stmt := top 41
def body__law_of : SS := sCons (sRet (sNat nIdx [sVar 1, sCall fn__law_take [sVar 0, sNat nLen [sVar 1]]])) (sNil)
def fn__law_of : Fn := runDef 2 2 body__law_of
theorem sc__law_of : FnScope ["pot", "some"] ["pot", "some"] (defScope st__law_of) := ⟨rfl, rfl, rfl, by decide +kernel, rfl, by decide +kernel, by decide +kernel⟩
theorem ok__law_of (T : Txt mg) (D__law_take : Def P w K mg base 1 "_law_take" ["pot", "upto"] fn__law_take) {f : Addr} {fd : FuncData} (F : L2.Fun K "_law_of" "_law_of" st__law_of f fd) (hm : mg "_law_of" = some (.ref f)) : Def P w K mg base 2 "_law_of" ["pot", "some"] fn__law_of :=
  @def_of P w K mg base "_law_of" st__law_of f fd ["pot", "some"] ["pot", "some"] 1 body__law_of F hm sc__law_of (fun _ _ _ _ _ _ us hl => match us, hl with | [_, _], _ => rfl) (fun _ _ _ _ _ _ us hl => match us, hl with | [_, _], _ => rfl) fun cdv A outer s H ok => dss_cons (ds_ret (d_ix (d_var 1) (d_call ok D__law_take (by decide) (by rfl) (da_cons (d_var 0) (da_cons (d_callB cr_lenA n_len (by rfl) T.b_len bt_len (da_cons (d_var 1) (da_nil))) (da_nil)))))) (dss_nil)
abbrev st__law_sources : Stmt := top 42
def body__law_sources : SS := sCons (sPar 4 5 (sNat nInt [sNat nSub [sCall fn__law_take [sVar 0, sNat nAdd [sNat nMul [sC (.int 2), sVar 2], sC (.int 1)]], sVar 2]]) (sLst [])) (sCons (sFor (sRng1 (sNat nAdd [sC (.int 1), sCall fn__law_take [sVar 0, sVar 1]])) (gN 3) (sCons (sIfS (sNat nGt [sCall fn__law_take [sVar 0, sC (.int 4)], sC (.int 0)]) (sCons (sAsg 6 (sNat nSub [sVar 4, sCall fn__law_take [sVar 0, sNat nAdd [sC (.int 1), sCall fn__law_of [sVar 0, sLst [sC (.int 2), sC (.int 6), sVar 2]]]]])) (sCons (sAsg 7 (sNat nAdd [sVar 4, sCall fn__law_take [sVar 0, sNat nAdd [sC (.int 1), sCall fn__law_of [sVar 0, sLst [sC (.int 2), sC (.int 6), sVar 2]]]]])) (sCons (sExpr (sMut 5 mAppend [sTup [sNat nInt [sNat nMax2 [sNat nNeg [sC (.int 99999)], sVar 6]], sNat nInt [sNat nMin2 [sC (.int 99999), sVar 7]]]])) (sNil)))) (sCons (sAsg 6 (sNat nSub [sCall fn__law_take [sVar 0, sNat nAdd [sNat nMul [sC (.int 2), sVar 2], sC (.int 1)]], sVar 2])) (sCons (sExpr (sMut 5 mAppend [sTup [sNat nInt [sVar 6], sNat nInt [sNat nMin2 [sC (.int 99999), sNat nAdd [sVar 6, sCall fn__law_take [sVar 0, sNat nAdd [sC (.int 1), sVar 2]]]]]]])) (sNil)))) (sNil))) (sCons (sRet (sTup [sNat nTuple [sVar 5], sVar 4])) (sNil)))
def fn__law_sources : Fn := runDef 3 8 body__law_sources
theorem sc__law_sources : FnScope ["pot", "most", "far", "at", "truth", "found", "low", "high"] ["pot", "most", "far"] (defScope st__law_sources) := ⟨rfl, rfl, rfl, by decide +kernel, rfl, by decide +kernel, by decide +kernel⟩
theorem ok__law_sources (T : Txt mg) (D__law_take : Def P w K mg base 1 "_law_take" ["pot", "upto"] fn__law_take) (D__law_of : Def P w K mg base 2 "_law_of" ["pot", "some"] fn__law_of) {f : Addr} {fd : FuncData} (F : L2.Fun K "_law_sources" "_law_sources" st__law_sources f fd) (hm : mg "_law_sources" = some (.ref f)) : Def P w K mg base 3 "_law_sources" ["pot", "most", "far"] fn__law_sources :=
  @def_of P w K mg base "_law_sources" st__law_sources f fd ["pot", "most", "far", "at", "truth", "found", "low", "high"] ["pot", "most", "far"] 2 body__law_sources F hm sc__law_sources (fun _ _ _ _ _ _ us hl => match us, hl with | [_, _, _], _ => rfl) (fun _ _ _ _ _ _ us hl => match us, hl with | [_, _, _], _ => rfl) fun cdv A outer s H ok => dss_cons (ds_par 4 5 ok.calm ok.nd (da_cons (d_callT call_int1 n_int (by rfl) T.b_int bt_int (da_cons (d_op op_sub n_sub (d_call ok D__law_take (by decide) (by rfl) (da_cons (d_var 0) (da_cons (d_op op_addA n_add (d_op op_mulX n_mul (d_int) (d_var 2)) (d_int)) (da_nil)))) (d_var 2)) (da_nil))) (da_cons (d_lst (da_nil)) da_nil))) (dss_cons (ds_for ok.po ok.calm (di_rng1 (by rfl) T.b_range (d_op op_addA n_add (d_int) (d_call ok D__law_take (by decide) (by rfl) (da_cons (d_var 0) (da_cons (d_var 1) (da_nil)))))) (dg_name 3 ok.nd) (dss_cons (ds_if (d_cmp op_gt n_gt (d_call ok D__law_take (by decide) (by rfl) (da_cons (d_var 0) (da_cons (d_int) (da_nil)))) (d_int)) (dss_cons (ds_asg 6 ok.nd (d_op op_sub n_sub (d_var 4) (d_call ok D__law_take (by decide) (by rfl) (da_cons (d_var 0) (da_cons (d_op op_addA n_add (d_int) (d_call ok D__law_of (by decide) (by rfl) (da_cons (d_var 0) (da_cons (d_lst (da_cons (d_int) (da_cons (d_int) (da_cons (d_var 2) (da_nil))))) (da_nil))))) (da_nil)))))) (dss_cons (ds_asg 7 ok.nd (d_op op_addA n_add (d_var 4) (d_call ok D__law_take (by decide) (by rfl) (da_cons (d_var 0) (da_cons (d_op op_addA n_add (d_int) (d_call ok D__law_of (by decide) (by rfl) (da_cons (d_var 0) (da_cons (d_lst (da_cons (d_int) (da_cons (d_int) (da_cons (d_var 2) (da_nil))))) (da_nil))))) (da_nil)))))) (dss_cons (ds_expr (d_mut 5 PySem.F.slot_list_append PySem.F.type_list_append mt_append m_append (da_cons (d_tup (da_cons (d_callT call_int1 n_int (by rfl) T.b_int bt_int (da_cons (d_callB (call_max2 ok.calm) n_max2 (by rfl) T.b_max bt_max (da_cons (d_un un_neg n_neg (d_int)) (da_cons (d_var 6) (da_nil)))) (da_nil))) (da_cons (d_callT call_int1 n_int (by rfl) T.b_int bt_int (da_cons (d_callB (call_min2 ok.calm) n_min2 (by rfl) T.b_min bt_min (da_cons (d_int) (da_cons (d_var 7) (da_nil)))) (da_nil))) (da_nil)))) (da_nil)))) (dss_nil)))) (dss_cons (ds_asg 6 ok.nd (d_op op_sub n_sub (d_call ok D__law_take (by decide) (by rfl) (da_cons (d_var 0) (da_cons (d_op op_addA n_add (d_op op_mulX n_mul (d_int) (d_var 2)) (d_int)) (da_nil)))) (d_var 2))) (dss_cons (ds_expr (d_mut 5 PySem.F.slot_list_append PySem.F.type_list_append mt_append m_append (da_cons (d_tup (da_cons (d_callT call_int1 n_int (by rfl) T.b_int bt_int (da_cons (d_var 6) (da_nil))) (da_cons (d_callT call_int1 n_int (by rfl) T.b_int bt_int (da_cons (d_callB (call_min2 ok.calm) n_min2 (by rfl) T.b_min bt_min (da_cons (d_int) (da_cons (d_op op_addA n_add (d_var 6) (d_call ok D__law_take (by decide) (by rfl) (da_cons (d_var 0) (da_cons (d_op op_addA n_add (d_int) (d_var 2)) (da_nil))))) (da_nil)))) (da_nil))) (da_nil)))) (da_nil)))) (dss_nil)))) (dss_nil))) (dss_cons (ds_ret (d_tup (da_cons (d_callT call_tuple_of n_tuple (by rfl) T.b_tuple bt_tuple (da_cons (d_var 5) (da_nil))) (da_cons (d_var 4) (da_nil))))) (dss_nil)))
abbrev st_is_integer : Stmt := top 7
def body_is_integer : SS := sCons (sRet (sAnd (sNat (nIsi "int") [sVar 0]) (sNot (sNat (nIsi "bool") [sVar 0])))) (sNil)
def fn_is_integer : Fn := runDef 1 1 body_is_integer
theorem sc_is_integer : FnScope ["value"] ["value"] (defScope st_is_integer) := ⟨rfl, rfl, rfl, by decide +kernel, rfl, by decide +kernel, by decide +kernel⟩
theorem ok_is_integer (T : Txt mg) {f : Addr} {fd : FuncData} (F : L2.Fun K "is_integer" "is_integer" st_is_integer f fd) (hm : mg "is_integer" = some (.ref f)) : Def P w K mg base 1 "is_integer" ["value"] fn_is_integer :=
  @def_of P w K mg base "is_integer" st_is_integer f fd ["value"] ["value"] 0 body_is_integer F hm sc_is_integer (fun _ _ _ _ _ _ us hl => match us, hl with | [_], _ => rfl) (fun _ _ _ _ _ _ us hl => match us, hl with | [_], _ => rfl) fun cdv A outer s H ok => dss_cons (ds_ret ((db_and (d_isi (by rfl) T.b_isinstance (by rfl) T.b_int bt_int (d_var 0)) (db_and1 (d_not (d_isi (by rfl) T.b_isinstance (by rfl) T.b_bool bt_bool (d_var 0))))).de)) (dss_nil)
abbrev st_is_between : Stmt := top 8
def body_is_between : SS := sCons (sRet (sAnd (sCall fn_is_integer [sVar 0]) (sChain nLe nLe (sVar 1) (sVar 0) (sVar 2)))) (sNil)
def fn_is_between : Fn := runDef 3 3 body_is_between
theorem sc_is_between : FnScope ["value", "least", "most"] ["value", "least", "most"] (defScope st_is_between) := ⟨rfl, rfl, rfl, by decide +kernel, rfl, by decide +kernel, by decide +kernel⟩
theorem ok_is_between (T : Txt mg) (D_is_integer : Def P w K mg base 1 "is_integer" ["value"] fn_is_integer) {f : Addr} {fd : FuncData} (F : L2.Fun K "is_between" "is_between" st_is_between f fd) (hm : mg "is_between" = some (.ref f)) : Def P w K mg base 2 "is_between" ["value", "least", "most"] fn_is_between :=
  @def_of P w K mg base "is_between" st_is_between f fd ["value", "least", "most"] ["value", "least", "most"] 1 body_is_between F hm sc_is_between (fun _ _ _ _ _ _ us hl => match us, hl with | [_, _, _], _ => rfl) (fun _ _ _ _ _ _ us hl => match us, hl with | [_, _, _], _ => rfl) fun cdv A outer s H ok => dss_cons (ds_ret ((db_and (d_call ok D_is_integer (by decide) (by rfl) (da_cons (d_var 0) (da_nil))) (db_and1 (d_chain op_le n_le op_le n_le (d_var 1) (d_var 0) (d_var 2)))).de)) (dss_nil)
abbrev st_is_source : Stmt := top 16
def body_is_source : SS := sCons (sIfS (sOr (sNot (sNat (nIsi "tuple") [sVar 0])) (sNat nNeS [sNat nLen [sVar 0], sC (.int 2)])) (sCons (sRet (sC (.bl false))) (sNil)) (sNil)) (sCons (sRet (sAnd (sNat nAll [sComp (sSeq (sVar 0)) (gN 1) (sC (.bl true)) (sCall fn_is_between [sVar 1, sNat nSub [sC (.int 0), sC (.int 99999)], sC (.int 99999)]) [1]]) (sNat nLe [sNat nIdx [sVar 0, sC (.int 0)], sNat nIdx [sVar 0, sC (.int 1)]]))) (sNil))
def fn_is_source : Fn := runDef 1 2 body_is_source
theorem sc_is_source : FnScope ["value", "its"] ["value"] (defScope st_is_source) := ⟨rfl, rfl, rfl, by decide +kernel, rfl, by decide +kernel, by decide +kernel⟩
theorem ok_is_source (T : Txt mg) (D_is_between : Def P w K mg base 2 "is_between" ["value", "least", "most"] fn_is_between) {f : Addr} {fd : FuncData} (F : L2.Fun K "is_source" "is_source" st_is_source f fd) (hm : mg "is_source" = some (.ref f)) : Def P w K mg base 3 "is_source" ["value"] fn_is_source :=
  @def_of P w K mg base "is_source" st_is_source f fd ["value", "its"] ["value"] 2 body_is_source F hm sc_is_source (fun _ _ _ _ _ _ us hl => match us, hl with | [_], _ => rfl) (fun _ _ _ _ _ _ us hl => match us, hl with | [_], _ => rfl) fun cdv A outer s H ok => dss_cons (ds_if ((db_or (d_not (d_isi (by rfl) T.b_isinstance (by rfl) T.b_tuple bt_tuple (d_var 0))) (db_or1 (d_cmp (op_neS ok.un) n_neS (d_callB cr_lenA n_len (by rfl) T.b_len bt_len (da_cons (d_var 0) (da_nil))) (d_int)))).de) (dss_cons (ds_ret (d_bl)) (dss_nil)) (dss_nil)) (dss_cons (ds_ret ((db_and (d_callB (cr_all ok.calm) n_all (by rfl) T.b_all bt_all (da_cons (d_comp [("its", 1)] ok.calm ok.nd (di_seq (d_var 0)) (blkOk_by (by kernel_rfl)) (fun s H C cl fp => dg_name 1 ok.nd) (fun s H C cl fp => dt_nil) (fun s H C cl fp => inBlk (ok.blk s H _ _ fp) fun ok => d_call ok D_is_between (by decide) (by rfl) (da_cons (d_var 1) (da_cons (d_op op_sub n_sub (d_int) (d_gint (by rfl) T.c_MOST_FAR.choose_spec ⟨_, rfl⟩)) (da_cons (d_gint (by rfl) T.c_MOST_FAR.choose_spec ⟨_, rfl⟩) (da_nil))))) (okN 1)) (da_nil))) (db_and1 (d_cmp op_le n_le (d_ix (d_var 0) (d_int)) (d_ix (d_var 0) (d_int))))).de)) (dss_nil))
abbrev st_check_sources : Stmt := top 17
def body_check_sources : SS := sCons (sIfS (sOr (sNot (sNat (nIsi "tuple") [sVar 0])) (sNot (sChain nLt nLe (sC (.int 0)) (sNat nLen [sVar 0]) (sC (.int 20))))) (sCons ((fun _ => .bad)) (sNil)) (sNil)) (sCons (sIfS (sNot (sNat nAll [sComp (sSeq (sVar 0)) (gN 1) (sC (.bl true)) (sCall fn_is_source [sVar 1]) [1]])) (sCons ((fun _ => .bad)) (sNil)) (sNil)) (sNil))
def fn_check_sources : Fn := runDef 1 2 body_check_sources
theorem sc_check_sources : FnScope ["sources", "one"] ["sources"] (defScope st_check_sources) := ⟨rfl, rfl, rfl, by decide +kernel, rfl, by decide +kernel, by decide +kernel⟩
theorem ok_check_sources (T : Txt mg) (D_is_source : Def P w K mg base 3 "is_source" ["value"] fn_is_source) {f : Addr} {fd : FuncData} (F : L2.Fun K "check_sources" "check_sources" st_check_sources f fd) (hm : mg "check_sources" = some (.ref f)) : Def P w K mg base 4 "check_sources" ["sources"] fn_check_sources :=
  @def_of P w K mg base "check_sources" st_check_sources f fd ["sources", "one"] ["sources"] 3 body_check_sources F hm sc_check_sources (fun _ _ _ _ _ _ us hl => match us, hl with | [_], _ => rfl) (fun _ _ _ _ _ _ us hl => match us, hl with | [_], _ => rfl) fun cdv A outer s H ok => dss_cons (ds_if ((db_or (d_not (d_isi (by rfl) T.b_isinstance (by rfl) T.b_tuple bt_tuple (d_var 0))) (db_or1 (d_not (d_chain op_lt n_lt op_le n_le (d_int) (d_callB cr_lenA n_len (by rfl) T.b_len bt_len (da_cons (d_var 0) (da_nil))) (d_gint (by rfl) T.c_MOST_SOURCES.choose_spec ⟨_, rfl⟩))))).de) (dss_cons (ds_never) (dss_nil)) (dss_nil)) (dss_cons (ds_if (d_not (d_callB (cr_all ok.calm) n_all (by rfl) T.b_all bt_all (da_cons (d_comp [("one", 1)] ok.calm ok.nd (di_seq (d_var 0)) (blkOk_by (by kernel_rfl)) (fun s H C cl fp => dg_name 1 ok.nd) (fun s H C cl fp => dt_nil) (fun s H C cl fp => inBlk (ok.blk s H _ _ fp) fun ok => d_call ok D_is_source (by decide) (by rfl) (da_cons (d_var 1) (da_nil))) (okN 1)) (da_nil)))) (dss_cons (ds_never) (dss_nil)) (dss_nil)) (dss_nil))
def rr_check_sources : Xc.RR := Xc.rIf (sOr (sNot (sNat (nIsi "tuple") [sVar 0])) (sNot (sChain nLt nLe (sC (.int 0)) (sNat nLen [sVar 0]) (sC (.int 20))))) 0 0 (Xc.rIf (sNot (sNat nAll [sComp (sSeq (sVar 0)) (gN 1) (sC (.bl true)) (sCall fn_is_source [sVar 1]) [1]])) 0 0 (Xc.rNo))
def rx_check_sources : Xc.RX := Xc.rDef 1 2 rr_check_sources
theorem okX_check_sources (T : Txt mg) (D_is_source : Def P w K mg base 3 "is_source" ["value"] fn_is_source) (e0 : Xc.ErrC P K (cs 0) Dc fI cc cda) (g0 : mg "BadSources" = some (.ref (cs 0))) {f : Addr} {fd : FuncData} (F : L2.Fun K "check_sources" "check_sources" st_check_sources f fd) (hm : mg "check_sources" = some (.ref f)) : Xc.DefX P w K mg base cs 4 "check_sources" ["sources"] rx_check_sources :=
  @Xc.defX_of P w K mg base cs "check_sources" st_check_sources f fd ["sources", "one"] ["sources"] 3 rr_check_sources F hm sc_check_sources (fun _ _ _ _ _ _ us hl => match us, hl with | [_], _ => rfl) fun cdv A outer s H E ok tk => Xc.xss_if (i := 0) (n := 0) ok.calm tk (ok.room.mono (by decide)) e0 ((db_or (d_not (d_isi (by rfl) T.b_isinstance (by rfl) T.b_tuple bt_tuple (d_var 0))) (db_or1 (d_not (d_chain op_lt n_lt op_le n_le (d_int) (d_callB cr_lenA n_len (by rfl) T.b_len bt_len (da_cons (d_var 0) (da_nil))) (d_gint (by rfl) T.c_MOST_SOURCES.choose_spec ⟨_, rfl⟩))))).de) (by rfl) g0 (by rfl) (by first | exact Or.inl rfl | exact Or.inr (Or.inl rfl) | exact Or.inr (Or.inr rfl)) (Xc.xss_if (i := 0) (n := 0) ok.calm tk (ok.room.mono (by decide)) e0 (d_not (d_callB (cr_all ok.calm) n_all (by rfl) T.b_all bt_all (da_cons (d_comp [("one", 1)] ok.calm ok.nd (di_seq (d_var 0)) (blkOk_by (by kernel_rfl)) (fun s H C cl fp => dg_name 1 ok.nd) (fun s H C cl fp => dt_nil) (fun s H C cl fp => inBlk (ok.blk s H _ _ fp) fun ok => d_call ok D_is_source (by decide) (by rfl) (da_cons (d_var 1) (da_nil))) (okN 1)) (da_nil)))) (by rfl) g0 (by rfl) (by first | exact Or.inl rfl | exact Or.inr (Or.inl rfl) | exact Or.inr (Or.inr rfl)) (Xc.xss_no))
abbrev st_having : Stmt := top 19
def body_having : SS := sCons (sRet (sComp (sEnum (sVar 0)) (gT [gN 2, gT [gN 3, gN 4]]) (sChain nLe nLe (sVar 3) (sVar 1) (sVar 4)) (sVar 2) [2, 3, 4])) (sNil)
def fn_having : Fn := runDef 2 5 body_having
theorem sc_having : FnScope ["sources", "truth", "at", "low", "high"] ["sources", "truth"] (defScope st_having) := ⟨rfl, rfl, rfl, by decide +kernel, rfl, by decide +kernel, by decide +kernel⟩
theorem ok_having (T : Txt mg) {f : Addr} {fd : FuncData} (F : L2.Fun K "having" "having" st_having f fd) (hm : mg "having" = some (.ref f)) : Def P w K mg base 1 "having" ["sources", "truth"] fn_having :=
  @def_of P w K mg base "having" st_having f fd ["sources", "truth", "at", "low", "high"] ["sources", "truth"] 0 body_having F hm sc_having (fun _ _ _ _ _ _ us hl => match us, hl with | [_, _], _ => rfl) (fun _ _ _ _ _ _ us hl => match us, hl with | [_, _], _ => rfl) fun cdv A outer s H ok => dss_cons (ds_ret (d_comp [("at", 2), ("low", 3), ("high", 4)] ok.calm ok.nd (di_enum (by rfl) T.b_enumerate (d_var 0)) (blkOk_by (by kernel_rfl)) (fun s H C cl fp => dg_tup ok.calm (dgs_cons (dg_name 2 ok.nd) (dgs_cons (dg_tup ok.calm (dgs_cons (dg_name 3 ok.nd) (dgs_cons (dg_name 4 ok.nd) (dgs_nil)))) (dgs_nil)))) (fun s H C cl fp => dt_one (d_chain op_le n_le op_le n_le (d_var 3) (d_var 1) (d_var 4))) (fun s H C cl fp => d_var 2) (okT (oksC (okN 2) (oksC (okT (oksC (okN 3) (oksC (okN 4) (oksN)))) (oksN)))))) (dss_nil)
abbrev st_have : Stmt := top 20
def body_have : SS := sCons (sExpr (sCall fn_check_sources [sVar 0])) (sCons (sIfS (sNot (sCall fn_is_between [sVar 1, sNat nSub [sC (.int 0), sC (.int 199998)], sC (.int 199998)])) (sCons ((fun _ => .bad)) (sNil)) (sNil)) (sCons (sRet (sNat nTuple [sCall fn_having [sVar 0, sVar 1]])) (sNil)))
def fn_have : Fn := runDef 2 2 body_have
theorem sc_have : FnScope ["sources", "truth"] ["sources", "truth"] (defScope st_have) := ⟨rfl, rfl, rfl, by decide +kernel, rfl, by decide +kernel, by decide +kernel⟩
theorem ok_have (T : Txt mg) (D_check_sources : Def P w K mg base 4 "check_sources" ["sources"] fn_check_sources) (D_is_between : Def P w K mg base 2 "is_between" ["value", "least", "most"] fn_is_between) (D_having : Def P w K mg base 1 "having" ["sources", "truth"] fn_having) {f : Addr} {fd : FuncData} (F : L2.Fun K "have" "have" st_have f fd) (hm : mg "have" = some (.ref f)) : Def P w K mg base 5 "have" ["sources", "truth"] fn_have :=
  @def_of P w K mg base "have" st_have f fd ["sources", "truth"] ["sources", "truth"] 4 body_have F hm sc_have (fun _ _ _ _ _ _ us hl => match us, hl with | [_, _], _ => rfl) (fun _ _ _ _ _ _ us hl => match us, hl with | [_, _], _ => rfl) fun cdv A outer s H ok => dss_cons (ds_expr (d_call ok D_check_sources (by decide) (by rfl) (da_cons (d_var 0) (da_nil)))) (dss_cons (ds_if (d_not (d_call ok D_is_between (by decide) (by rfl) (da_cons (d_var 1) (da_cons (d_op op_sub n_sub (d_int) (d_gint (by rfl) T.c_MOST_TRUTH.choose_spec ⟨_, rfl⟩)) (da_cons (d_gint (by rfl) T.c_MOST_TRUTH.choose_spec ⟨_, rfl⟩) (da_nil)))))) (dss_cons (ds_never) (dss_nil)) (dss_nil)) (dss_cons (ds_ret (d_callT call_tuple_of n_tuple (by rfl) T.b_tuple bt_tuple (da_cons (d_call ok D_having (by decide) (by rfl) (da_cons (d_var 0) (da_cons (d_var 1) (da_nil)))) (da_nil)))) (dss_nil)))
def rr_have : Xc.RR := Xc.rOr (Xc.rCall [sVar 0] rx_check_sources) (Xc.rSeq (sExpr (sCall fn_check_sources [sVar 0])) (Xc.rIf (sNot (sCall fn_is_between [sVar 1, sNat nSub [sC (.int 0), sC (.int 199998)], sC (.int 199998)])) 1 1 (Xc.rNo)))
def rx_have : Xc.RX := Xc.rDef 2 2 rr_have
theorem okX_have (T : Txt mg) (D_is_between : Def P w K mg base 2 "is_between" ["value", "least", "most"] fn_is_between) (D_check_sources : Def P w K mg base 4 "check_sources" ["sources"] fn_check_sources) (DX_check_sources : Xc.DefX P w K mg base cs 4 "check_sources" ["sources"] rx_check_sources) (e1 : Xc.ErrC P K (cs 1) Dc fI cc cda) (g1 : mg "BadNumber" = some (.ref (cs 1))) {f : Addr} {fd : FuncData} (F : L2.Fun K "have" "have" st_have f fd) (hm : mg "have" = some (.ref f)) : Xc.DefX P w K mg base cs 5 "have" ["sources", "truth"] rx_have :=
  @Xc.defX_of P w K mg base cs "have" st_have f fd ["sources", "truth"] ["sources", "truth"] 4 rr_have F hm sc_have (fun _ _ _ _ _ _ us hl => match us, hl with | [_, _], _ => rfl) fun cdv A outer s H E ok tk => Xc.xss_or (Xc.xss_head (Xc.xs_expr DX_check_sources (by decide) ok.room ok.gd tk (by rfl) (da_cons (d_var 0) (da_nil)))) (Xc.xss_plain (ds_expr (d_call ok D_check_sources (by decide) (by rfl) (da_cons (d_var 0) (da_nil)))) (Xc.xss_if (i := 1) (n := 1) ok.calm tk (ok.room.mono (by decide)) e1 (d_not (d_call ok D_is_between (by decide) (by rfl) (da_cons (d_var 1) (da_cons (d_op op_sub n_sub (d_int) (d_gint (by rfl) T.c_MOST_TRUTH.choose_spec ⟨_, rfl⟩)) (da_cons (d_gint (by rfl) T.c_MOST_TRUTH.choose_spec ⟨_, rfl⟩) (da_nil)))))) (by rfl) g1 (by rfl) (by first | exact Or.inl rfl | exact Or.inr (Or.inl rfl) | exact Or.inr (Or.inr rfl)) (Xc.xss_no)))
abbrev st_pieces_of : Stmt := top 21
def body_pieces_of : SS := sCons (sAsg 1 (sNat nSortSet [sNat nAdd [sComp (sSeq (sVar 0)) (gT [gN 4, gN 5]) (sC (.bl true)) (sVar 4) [4, 5], sComp (sSeq (sVar 0)) (gT [gN 4, gN 5]) (sC (.bl true)) (sNat nAdd [sVar 5, sC (.int 1)]) [4, 5]]])) (sCons (sRet (sComp (sZip (sVar 1) (sSlc (sVar 1) (some (sC (.int 1))) none)) (gT [gN 2, gN 3]) (sC (.bl true)) (sTup [sVar 2, sNat nSub [sVar 3, sC (.int 1)], sCall fn_having [sVar 0, sVar 2]]) [2, 3])) (sNil))
def fn_pieces_of : Fn := runDef 1 6 body_pieces_of
theorem sc_pieces_of : FnScope ["sources", "edges", "one", "other", "low", "high"] ["sources"] (defScope st_pieces_of) := ⟨rfl, rfl, rfl, by decide +kernel, rfl, by decide +kernel, by decide +kernel⟩
theorem ok_pieces_of (T : Txt mg) (D_having : Def P w K mg base 1 "having" ["sources", "truth"] fn_having) {f : Addr} {fd : FuncData} (F : L2.Fun K "pieces_of" "pieces_of" st_pieces_of f fd) (hm : mg "pieces_of" = some (.ref f)) : Def P w K mg base 2 "pieces_of" ["sources"] fn_pieces_of :=
  @def_of P w K mg base "pieces_of" st_pieces_of f fd ["sources", "edges", "one", "other", "low", "high"] ["sources"] 1 body_pieces_of F hm sc_pieces_of (fun _ _ _ _ _ _ us hl => match us, hl with | [_], _ => rfl) (fun _ _ _ _ _ _ us hl => match us, hl with | [_], _ => rfl) fun cdv A outer s H ok => dss_cons (ds_asg 1 ok.nd (d_sortSet ok (by rfl) T.b_sorted (by rfl) T.b_set (d_op op_addA n_add (d_comp [("low", 4), ("high", 5)] ok.calm ok.nd (di_seq (d_var 0)) (blkOk_by (by kernel_rfl)) (fun s H C cl fp => dg_tup ok.calm (dgs_cons (dg_name 4 ok.nd) (dgs_cons (dg_name 5 ok.nd) (dgs_nil)))) (fun s H C cl fp => dt_nil) (fun s H C cl fp => d_var 4) (okT (oksC (okN 4) (oksC (okN 5) (oksN))))) (d_comp [("low", 4), ("high", 5)] ok.calm ok.nd (di_seq (d_var 0)) (blkOk_by (by kernel_rfl)) (fun s H C cl fp => dg_tup ok.calm (dgs_cons (dg_name 4 ok.nd) (dgs_cons (dg_name 5 ok.nd) (dgs_nil)))) (fun s H C cl fp => dt_nil) (fun s H C cl fp => d_op op_addA n_add (d_var 5) (d_int)) (okT (oksC (okN 4) (oksC (okN 5) (oksN)))))))) (dss_cons (ds_ret (d_comp [("one", 2), ("other", 3)] ok.calm ok.nd (di_zip (by rfl) T.b_zip (d_var 1) (d_slc (d_var 1) (d_int) (trivial))) (blkOk_by (by kernel_rfl)) (fun s H C cl fp => dg_tup ok.calm (dgs_cons (dg_name 2 ok.nd) (dgs_cons (dg_name 3 ok.nd) (dgs_nil)))) (fun s H C cl fp => dt_nil) (fun s H C cl fp => inBlk (ok.blk s H _ _ fp) fun ok => d_tup (da_cons (d_var 2) (da_cons (d_op op_sub n_sub (d_var 3) (d_int)) (da_cons (d_call ok D_having (by decide) (by rfl) (da_cons (d_var 0) (da_cons (d_var 2) (da_nil)))) (da_nil))))) (okT (oksC (okN 2) (oksC (okN 3) (oksN)))))) (dss_nil))
abbrev st_most_agreed : Stmt := top 25
def body_most_agreed : SS := sCons (sRet (sNat nMax1 [sComp (sSeq (sCall fn_pieces_of [sVar 0])) (gT [gN 1, gN 2, gN 3]) (sC (.bl true)) (sNat nLen [sVar 3]) [1, 2, 3]])) (sNil)
def fn_most_agreed : Fn := runDef 1 4 body_most_agreed
theorem sc_most_agreed : FnScope ["sources", "least", "most", "some"] ["sources"] (defScope st_most_agreed) := ⟨rfl, rfl, rfl, by decide +kernel, rfl, by decide +kernel, by decide +kernel⟩
theorem ok_most_agreed (T : Txt mg) (D_pieces_of : Def P w K mg base 2 "pieces_of" ["sources"] fn_pieces_of) {f : Addr} {fd : FuncData} (F : L2.Fun K "most_agreed" "most_agreed" st_most_agreed f fd) (hm : mg "most_agreed" = some (.ref f)) : Def P w K mg base 3 "most_agreed" ["sources"] fn_most_agreed :=
  @def_of P w K mg base "most_agreed" st_most_agreed f fd ["sources", "least", "most", "some"] ["sources"] 2 body_most_agreed F hm sc_most_agreed (fun _ _ _ _ _ _ us hl => match us, hl with | [_], _ => rfl) (fun _ _ _ _ _ _ us hl => match us, hl with | [_], _ => rfl) fun cdv A outer s H ok => dss_cons (ds_ret (d_callB (cr_max ok.calm) n_max1 (by rfl) T.b_max bt_max (da_cons (d_comp [("least", 1), ("most", 2), ("some", 3)] ok.calm ok.nd (di_seq (d_call ok D_pieces_of (by decide) (by rfl) (da_cons (d_var 0) (da_nil)))) (blkOk_by (by kernel_rfl)) (fun s H C cl fp => dg_tup ok.calm (dgs_cons (dg_name 1 ok.nd) (dgs_cons (dg_name 2 ok.nd) (dgs_cons (dg_name 3 ok.nd) (dgs_nil))))) (fun s H C cl fp => dt_nil) (fun s H C cl fp => d_callB cr_lenA n_len (by rfl) T.b_len bt_len (da_cons (d_var 3) (da_nil))) (okT (oksC (okN 1) (oksC (okN 2) (oksC (okN 3) (oksN)))))) (da_nil)))) (dss_nil)
abbrev st_joined : Stmt := top 22
def body_joined : SS := sCons (sAsg 1 (sLst [])) (sCons (sFor (sSeq (sVar 0)) (gT [gN 2, gN 3]) (sCons (sIfS (sAnd (sNat nNeS [sVar 1, sLst []]) (sNat nEqS [sNat nAdd [sNat nIdx [sNat nIdx [sVar 1, sNat nNeg [sC (.int 1)]], sC (.int 1)], sC (.int 1)], sVar 2])) (sCons (sSetIx 1 (sNat nNeg [sC (.int 1)]) (sTup [sNat nIdx [sNat nIdx [sVar 1, sNat nNeg [sC (.int 1)]], sC (.int 0)], sVar 3])) (sNil)) (sCons (sExpr (sMut 1 mAppend [sTup [sVar 2, sVar 3]])) (sNil))) (sNil))) (sCons (sRet (sNat nTuple [sVar 1])) (sNil)))
def fn_joined : Fn := runDef 1 4 body_joined
theorem sc_joined : FnScope ["rows", "found", "least", "most"] ["rows"] (defScope st_joined) := ⟨rfl, rfl, rfl, by decide +kernel, rfl, by decide +kernel, by decide +kernel⟩
theorem ok_joined (T : Txt mg) {f : Addr} {fd : FuncData} (F : L2.Fun K "joined" "joined" st_joined f fd) (hm : mg "joined" = some (.ref f)) : Def P w K mg base 1 "joined" ["rows"] fn_joined :=
  @def_of P w K mg base "joined" st_joined f fd ["rows", "found", "least", "most"] ["rows"] 0 body_joined F hm sc_joined (fun _ _ _ _ _ _ us hl => match us, hl with | [_], _ => rfl) (fun _ _ _ _ _ _ us hl => match us, hl with | [_], _ => rfl) fun cdv A outer s H ok => dss_cons (ds_asg 1 ok.nd (d_lst (da_nil))) (dss_cons (ds_for ok.po ok.calm (di_seq (d_var 0)) (dg_tup ok.calm (dgs_cons (dg_name 2 ok.nd) (dgs_cons (dg_name 3 ok.nd) (dgs_nil)))) (dss_cons (ds_if ((db_and (d_cmp (op_neS ok.un) n_neS (d_var 1) (d_lst (da_nil))) (db_and1 (d_cmp (op_eqS ok.un) n_eqS (d_op op_addA n_add (d_ix (d_ix (d_var 1) (d_un un_neg n_neg (d_int))) (d_int)) (d_int)) (d_var 2)))).de) (dss_cons (ds_setIx 1 (d_tup (da_cons (d_ix (d_ix (d_var 1) (d_un un_neg n_neg (d_int))) (d_int)) (da_cons (d_var 3) (da_nil)))) (d_un un_neg n_neg (d_int))) (dss_nil)) (dss_cons (ds_expr (d_mut 1 PySem.F.slot_list_append PySem.F.type_list_append mt_append m_append (da_cons (d_tup (da_cons (d_var 2) (da_cons (d_var 3) (da_nil)))) (da_nil)))) (dss_nil))) (dss_nil))) (dss_cons (ds_ret (d_callT call_tuple_of n_tuple (by rfl) T.b_tuple bt_tuple (da_cons (d_var 1) (da_nil)))) (dss_nil)))
abbrev st_told_agreed : Stmt := top 23
def body_told_agreed : SS := sCons (sRet (sCall fn_joined [sComp (sSeq (sCall fn_pieces_of [sVar 0])) (gT [gN 2, gN 3, gN 4]) (sNat nGe [sNat nLen [sVar 4], sVar 1]) (sTup [sVar 2, sVar 3]) [2, 3, 4]])) (sNil)
def fn_told_agreed : Fn := runDef 2 5 body_told_agreed
theorem sc_told_agreed : FnScope ["sources", "many", "least", "most", "some"] ["sources", "many"] (defScope st_told_agreed) := ⟨rfl, rfl, rfl, by decide +kernel, rfl, by decide +kernel, by decide +kernel⟩
theorem ok_told_agreed (T : Txt mg) (D_joined : Def P w K mg base 1 "joined" ["rows"] fn_joined) (D_pieces_of : Def P w K mg base 2 "pieces_of" ["sources"] fn_pieces_of) {f : Addr} {fd : FuncData} (F : L2.Fun K "told_agreed" "told_agreed" st_told_agreed f fd) (hm : mg "told_agreed" = some (.ref f)) : Def P w K mg base 3 "told_agreed" ["sources", "many"] fn_told_agreed :=
  @def_of P w K mg base "told_agreed" st_told_agreed f fd ["sources", "many", "least", "most", "some"] ["sources", "many"] 2 body_told_agreed F hm sc_told_agreed (fun _ _ _ _ _ _ us hl => match us, hl with | [_, _], _ => rfl) (fun _ _ _ _ _ _ us hl => match us, hl with | [_, _], _ => rfl) fun cdv A outer s H ok => dss_cons (ds_ret (d_call ok D_joined (by decide) (by rfl) (da_cons (d_comp [("least", 2), ("most", 3), ("some", 4)] ok.calm ok.nd (di_seq (d_call ok D_pieces_of (by decide) (by rfl) (da_cons (d_var 0) (da_nil)))) (blkOk_by (by kernel_rfl)) (fun s H C cl fp => dg_tup ok.calm (dgs_cons (dg_name 2 ok.nd) (dgs_cons (dg_name 3 ok.nd) (dgs_cons (dg_name 4 ok.nd) (dgs_nil))))) (fun s H C cl fp => dt_one (d_cmp op_ge n_ge (d_callB cr_lenA n_len (by rfl) T.b_len bt_len (da_cons (d_var 4) (da_nil))) (d_var 1))) (fun s H C cl fp => d_tup (da_cons (d_var 2) (da_cons (d_var 3) (da_nil)))) (okT (oksC (okN 2) (oksC (okN 3) (oksC (okN 4) (oksN)))))) (da_nil)))) (dss_nil)
abbrev st_best_agreed : Stmt := top 26
def body_best_agreed : SS := sCons (sExpr (sCall fn_check_sources [sVar 0])) (sCons (sAsg 1 (sCall fn_most_agreed [sVar 0])) (sCons (sRet (sTup [sVar 1, sCall fn_told_agreed [sVar 0, sVar 1]])) (sNil)))
def fn_best_agreed : Fn := runDef 1 2 body_best_agreed
theorem sc_best_agreed : FnScope ["sources", "number"] ["sources"] (defScope st_best_agreed) := ⟨rfl, rfl, rfl, by decide +kernel, rfl, by decide +kernel, by decide +kernel⟩
theorem ok_best_agreed (T : Txt mg) (D_check_sources : Def P w K mg base 4 "check_sources" ["sources"] fn_check_sources) (D_most_agreed : Def P w K mg base 3 "most_agreed" ["sources"] fn_most_agreed) (D_told_agreed : Def P w K mg base 3 "told_agreed" ["sources", "many"] fn_told_agreed) {f : Addr} {fd : FuncData} (F : L2.Fun K "best_agreed" "best_agreed" st_best_agreed f fd) (hm : mg "best_agreed" = some (.ref f)) : Def P w K mg base 5 "best_agreed" ["sources"] fn_best_agreed :=
  @def_of P w K mg base "best_agreed" st_best_agreed f fd ["sources", "number"] ["sources"] 4 body_best_agreed F hm sc_best_agreed (fun _ _ _ _ _ _ us hl => match us, hl with | [_], _ => rfl) (fun _ _ _ _ _ _ us hl => match us, hl with | [_], _ => rfl) fun cdv A outer s H ok => dss_cons (ds_expr (d_call ok D_check_sources (by decide) (by rfl) (da_cons (d_var 0) (da_nil)))) (dss_cons (ds_asg 1 ok.nd (d_call ok D_most_agreed (by decide) (by rfl) (da_cons (d_var 0) (da_nil)))) (dss_cons (ds_ret (d_tup (da_cons (d_var 1) (da_cons (d_call ok D_told_agreed (by decide) (by rfl) (da_cons (d_var 0) (da_cons (d_var 1) (da_nil)))) (da_nil))))) (dss_nil)))
def rr_best_agreed : Xc.RR := Xc.rOr (Xc.rCall [sVar 0] rx_check_sources) (Xc.rSeq (sExpr (sCall fn_check_sources [sVar 0])) (Xc.rNo))
def rx_best_agreed : Xc.RX := Xc.rDef 1 2 rr_best_agreed
theorem okX_best_agreed (T : Txt mg) (D_check_sources : Def P w K mg base 4 "check_sources" ["sources"] fn_check_sources) (DX_check_sources : Xc.DefX P w K mg base cs 4 "check_sources" ["sources"] rx_check_sources) {f : Addr} {fd : FuncData} (F : L2.Fun K "best_agreed" "best_agreed" st_best_agreed f fd) (hm : mg "best_agreed" = some (.ref f)) : Xc.DefX P w K mg base cs 5 "best_agreed" ["sources"] rx_best_agreed :=
  @Xc.defX_of P w K mg base cs "best_agreed" st_best_agreed f fd ["sources", "number"] ["sources"] 4 rr_best_agreed F hm sc_best_agreed (fun _ _ _ _ _ _ us hl => match us, hl with | [_], _ => rfl) fun cdv A outer s H E ok tk => Xc.xss_or (Xc.xss_head (Xc.xs_expr DX_check_sources (by decide) ok.room ok.gd tk (by rfl) (da_cons (d_var 0) (da_nil)))) (Xc.xss_plain (ds_expr (d_call ok D_check_sources (by decide) (by rfl) (da_cons (d_var 0) (da_nil)))) (Xc.xss_no))
abbrev st_check_wrong : Stmt := top 18
def body_check_wrong : SS := sCons (sExpr (sCall fn_check_sources [sVar 0])) (sCons (sIfS (sNot (sCall fn_is_between [sVar 1, sC (.int 0), sNat nSub [sNat nLen [sVar 0], sC (.int 1)]])) (sCons ((fun _ => .bad)) (sNil)) (sNil)) (sNil))
def fn_check_wrong : Fn := runDef 2 2 body_check_wrong
theorem sc_check_wrong : FnScope ["sources", "wrong"] ["sources", "wrong"] (defScope st_check_wrong) := ⟨rfl, rfl, rfl, by decide +kernel, rfl, by decide +kernel, by decide +kernel⟩
theorem ok_check_wrong (T : Txt mg) (D_check_sources : Def P w K mg base 4 "check_sources" ["sources"] fn_check_sources) (D_is_between : Def P w K mg base 2 "is_between" ["value", "least", "most"] fn_is_between) {f : Addr} {fd : FuncData} (F : L2.Fun K "check_wrong" "check_wrong" st_check_wrong f fd) (hm : mg "check_wrong" = some (.ref f)) : Def P w K mg base 5 "check_wrong" ["sources", "wrong"] fn_check_wrong :=
  @def_of P w K mg base "check_wrong" st_check_wrong f fd ["sources", "wrong"] ["sources", "wrong"] 4 body_check_wrong F hm sc_check_wrong (fun _ _ _ _ _ _ us hl => match us, hl with | [_, _], _ => rfl) (fun _ _ _ _ _ _ us hl => match us, hl with | [_, _], _ => rfl) fun cdv A outer s H ok => dss_cons (ds_expr (d_call ok D_check_sources (by decide) (by rfl) (da_cons (d_var 0) (da_nil)))) (dss_cons (ds_if (d_not (d_call ok D_is_between (by decide) (by rfl) (da_cons (d_var 1) (da_cons (d_int) (da_cons (d_op op_sub n_sub (d_callB cr_lenA n_len (by rfl) T.b_len bt_len (da_cons (d_var 0) (da_nil))) (d_int)) (da_nil)))))) (dss_cons (ds_never) (dss_nil)) (dss_nil)) (dss_nil))
def rr_check_wrong : Xc.RR := Xc.rOr (Xc.rCall [sVar 0] rx_check_sources) (Xc.rSeq (sExpr (sCall fn_check_sources [sVar 0])) (Xc.rIf (sNot (sCall fn_is_between [sVar 1, sC (.int 0), sNat nSub [sNat nLen [sVar 0], sC (.int 1)]])) 1 1 (Xc.rNo)))
def rx_check_wrong : Xc.RX := Xc.rDef 2 2 rr_check_wrong
theorem okX_check_wrong (T : Txt mg) (D_is_between : Def P w K mg base 2 "is_between" ["value", "least", "most"] fn_is_between) (D_check_sources : Def P w K mg base 4 "check_sources" ["sources"] fn_check_sources) (DX_check_sources : Xc.DefX P w K mg base cs 4 "check_sources" ["sources"] rx_check_sources) (e1 : Xc.ErrC P K (cs 1) Dc fI cc cda) (g1 : mg "BadNumber" = some (.ref (cs 1))) {f : Addr} {fd : FuncData} (F : L2.Fun K "check_wrong" "check_wrong" st_check_wrong f fd) (hm : mg "check_wrong" = some (.ref f)) : Xc.DefX P w K mg base cs 5 "check_wrong" ["sources", "wrong"] rx_check_wrong :=
  @Xc.defX_of P w K mg base cs "check_wrong" st_check_wrong f fd ["sources", "wrong"] ["sources", "wrong"] 4 rr_check_wrong F hm sc_check_wrong (fun _ _ _ _ _ _ us hl => match us, hl with | [_, _], _ => rfl) fun cdv A outer s H E ok tk => Xc.xss_or (Xc.xss_head (Xc.xs_expr DX_check_sources (by decide) ok.room ok.gd tk (by rfl) (da_cons (d_var 0) (da_nil)))) (Xc.xss_plain (ds_expr (d_call ok D_check_sources (by decide) (by rfl) (da_cons (d_var 0) (da_nil)))) (Xc.xss_if (i := 1) (n := 1) ok.calm tk (ok.room.mono (by decide)) e1 (d_not (d_call ok D_is_between (by decide) (by rfl) (da_cons (d_var 1) (da_cons (d_int) (da_cons (d_op op_sub n_sub (d_callB cr_lenA n_len (by rfl) T.b_len bt_len (da_cons (d_var 0) (da_nil))) (d_int)) (da_nil)))))) (by rfl) g1 (by rfl) (by first | exact Or.inl rfl | exact Or.inr (Or.inl rfl) | exact Or.inr (Or.inr rfl)) (Xc.xss_no)))
abbrev st_told_could : Stmt := top 28
def body_told_could : SS := sCons (sAsg 2 (sNat nSub [sNat nLen [sVar 0], sCall fn_most_agreed [sVar 0]])) (sCons (sRet (sIf (sNat nGt [sVar 2, sVar 1]) (sTup [sC (.str "more"), sVar 2]) (sTup [sC (.str "spans"), sCall fn_told_agreed [sVar 0, sNat nSub [sNat nLen [sVar 0], sVar 1]]]))) (sNil))
def fn_told_could : Fn := runDef 2 3 body_told_could
theorem sc_told_could : FnScope ["sources", "wrong", "fewest"] ["sources", "wrong"] (defScope st_told_could) := ⟨rfl, rfl, rfl, by decide +kernel, rfl, by decide +kernel, by decide +kernel⟩
theorem ok_told_could (T : Txt mg) (D_most_agreed : Def P w K mg base 3 "most_agreed" ["sources"] fn_most_agreed) (D_told_agreed : Def P w K mg base 3 "told_agreed" ["sources", "many"] fn_told_agreed) {f : Addr} {fd : FuncData} (F : L2.Fun K "told_could" "told_could" st_told_could f fd) (hm : mg "told_could" = some (.ref f)) : Def P w K mg base 4 "told_could" ["sources", "wrong"] fn_told_could :=
  @def_of P w K mg base "told_could" st_told_could f fd ["sources", "wrong", "fewest"] ["sources", "wrong"] 3 body_told_could F hm sc_told_could (fun _ _ _ _ _ _ us hl => match us, hl with | [_, _], _ => rfl) (fun _ _ _ _ _ _ us hl => match us, hl with | [_, _], _ => rfl) fun cdv A outer s H ok => dss_cons (ds_asg 2 ok.nd (d_op op_sub n_sub (d_callB cr_lenA n_len (by rfl) T.b_len bt_len (da_cons (d_var 0) (da_nil))) (d_call ok D_most_agreed (by decide) (by rfl) (da_cons (d_var 0) (da_nil))))) (dss_cons (ds_ret (d_if (d_cmp op_gt n_gt (d_var 2) (d_var 1)) (d_tup (da_cons (d_gstr (by rfl) T.c_MORE.choose_spec ⟨_, rfl⟩) (da_cons (d_var 2) (da_nil)))) (d_tup (da_cons (d_gstr (by rfl) T.c_SPANS.choose_spec ⟨_, rfl⟩) (da_cons (d_call ok D_told_agreed (by decide) (by rfl) (da_cons (d_var 0) (da_cons (d_op op_sub n_sub (d_callB cr_lenA n_len (by rfl) T.b_len bt_len (da_cons (d_var 0) (da_nil))) (d_var 1)) (da_nil)))) (da_nil)))))) (dss_nil))
abbrev st_truth_spans : Stmt := top 29
def body_truth_spans : SS := sCons (sExpr (sCall fn_check_wrong [sVar 0, sVar 1])) (sCons (sRet (sCall fn_told_could [sVar 0, sVar 1])) (sNil))
def fn_truth_spans : Fn := runDef 2 2 body_truth_spans
theorem sc_truth_spans : FnScope ["sources", "wrong"] ["sources", "wrong"] (defScope st_truth_spans) := ⟨rfl, rfl, rfl, by decide +kernel, rfl, by decide +kernel, by decide +kernel⟩
theorem ok_truth_spans (T : Txt mg) (D_check_wrong : Def P w K mg base 5 "check_wrong" ["sources", "wrong"] fn_check_wrong) (D_told_could : Def P w K mg base 4 "told_could" ["sources", "wrong"] fn_told_could) {f : Addr} {fd : FuncData} (F : L2.Fun K "truth_spans" "truth_spans" st_truth_spans f fd) (hm : mg "truth_spans" = some (.ref f)) : Def P w K mg base 6 "truth_spans" ["sources", "wrong"] fn_truth_spans :=
  @def_of P w K mg base "truth_spans" st_truth_spans f fd ["sources", "wrong"] ["sources", "wrong"] 5 body_truth_spans F hm sc_truth_spans (fun _ _ _ _ _ _ us hl => match us, hl with | [_, _], _ => rfl) (fun _ _ _ _ _ _ us hl => match us, hl with | [_, _], _ => rfl) fun cdv A outer s H ok => dss_cons (ds_expr (d_call ok D_check_wrong (by decide) (by rfl) (da_cons (d_var 0) (da_cons (d_var 1) (da_nil))))) (dss_cons (ds_ret (d_call ok D_told_could (by decide) (by rfl) (da_cons (d_var 0) (da_cons (d_var 1) (da_nil))))) (dss_nil))
def rr_truth_spans : Xc.RR := Xc.rOr (Xc.rCall [sVar 0, sVar 1] rx_check_wrong) (Xc.rSeq (sExpr (sCall fn_check_wrong [sVar 0, sVar 1])) (Xc.rNo))
def rx_truth_spans : Xc.RX := Xc.rDef 2 2 rr_truth_spans
theorem okX_truth_spans (T : Txt mg) (D_check_wrong : Def P w K mg base 5 "check_wrong" ["sources", "wrong"] fn_check_wrong) (DX_check_wrong : Xc.DefX P w K mg base cs 5 "check_wrong" ["sources", "wrong"] rx_check_wrong) {f : Addr} {fd : FuncData} (F : L2.Fun K "truth_spans" "truth_spans" st_truth_spans f fd) (hm : mg "truth_spans" = some (.ref f)) : Xc.DefX P w K mg base cs 6 "truth_spans" ["sources", "wrong"] rx_truth_spans :=
  @Xc.defX_of P w K mg base cs "truth_spans" st_truth_spans f fd ["sources", "wrong"] ["sources", "wrong"] 5 rr_truth_spans F hm sc_truth_spans (fun _ _ _ _ _ _ us hl => match us, hl with | [_, _], _ => rfl) fun cdv A outer s H E ok tk => Xc.xss_or (Xc.xss_head (Xc.xs_expr DX_check_wrong (by decide) ok.room ok.gd tk (by rfl) (da_cons (d_var 0) (da_cons (d_var 1) (da_nil))))) (Xc.xss_plain (ds_expr (d_call ok D_check_wrong (by decide) (by rfl) (da_cons (d_var 0) (da_cons (d_var 1) (da_nil))))) (Xc.xss_no))
abbrev st_spans_if : Stmt := top 30
def body_spans_if : SS := sCons (sExpr (sCall fn_check_wrong [sVar 0, sVar 1])) (sCons (sAsgT (gT [gN 2, gN 3]) (sCall fn_told_could [sVar 0, sVar 1])) (sCons (sIfS (sNat nEqS [sVar 2, sC (.str "more")]) (sCons ((fun _ => .bad)) (sNil)) (sNil)) (sCons (sRet (sVar 3)) (sNil))))
def fn_spans_if : Fn := runDef 2 4 body_spans_if
theorem sc_spans_if : FnScope ["sources", "wrong", "word", "told"] ["sources", "wrong"] (defScope st_spans_if) := ⟨rfl, rfl, rfl, by decide +kernel, rfl, by decide +kernel, by decide +kernel⟩
theorem ok_spans_if (T : Txt mg) (D_check_wrong : Def P w K mg base 5 "check_wrong" ["sources", "wrong"] fn_check_wrong) (D_told_could : Def P w K mg base 4 "told_could" ["sources", "wrong"] fn_told_could) {f : Addr} {fd : FuncData} (F : L2.Fun K "spans_if" "spans_if" st_spans_if f fd) (hm : mg "spans_if" = some (.ref f)) : Def P w K mg base 6 "spans_if" ["sources", "wrong"] fn_spans_if :=
  @def_of P w K mg base "spans_if" st_spans_if f fd ["sources", "wrong", "word", "told"] ["sources", "wrong"] 5 body_spans_if F hm sc_spans_if (fun _ _ _ _ _ _ us hl => match us, hl with | [_, _], _ => rfl) (fun _ _ _ _ _ _ us hl => match us, hl with | [_, _], _ => rfl) fun cdv A outer s H ok => dss_cons (ds_expr (d_call ok D_check_wrong (by decide) (by rfl) (da_cons (d_var 0) (da_cons (d_var 1) (da_nil))))) (dss_cons (ds_asgT (d_call ok D_told_could (by decide) (by rfl) (da_cons (d_var 0) (da_cons (d_var 1) (da_nil)))) (dg_tup ok.calm (dgs_cons (dg_name 2 ok.nd) (dgs_cons (dg_name 3 ok.nd) (dgs_nil))))) (dss_cons (ds_if (d_cmp (op_eqS ok.un) n_eqS (d_var 2) (d_gstr (by rfl) T.c_MORE.choose_spec ⟨_, rfl⟩)) (dss_cons (ds_never) (dss_nil)) (dss_nil)) (dss_cons (ds_ret (d_var 3)) (dss_nil))))
def rr_spans_if : Xc.RR := Xc.rOr (Xc.rCall [sVar 0, sVar 1] rx_check_wrong) (Xc.rSeq (sExpr (sCall fn_check_wrong [sVar 0, sVar 1])) (Xc.rSeq (sAsgT (gT [gN 2, gN 3]) (sCall fn_told_could [sVar 0, sVar 1])) (Xc.rIf (sNat nEqS [sVar 2, sC (.str "more")]) 3 3 (Xc.rNo))))
def rx_spans_if : Xc.RX := Xc.rDef 2 4 rr_spans_if
theorem okX_spans_if (T : Txt mg) (D_check_wrong : Def P w K mg base 5 "check_wrong" ["sources", "wrong"] fn_check_wrong) (D_told_could : Def P w K mg base 4 "told_could" ["sources", "wrong"] fn_told_could) (DX_check_wrong : Xc.DefX P w K mg base cs 5 "check_wrong" ["sources", "wrong"] rx_check_wrong) (e3 : Xc.ErrC P K (cs 3) Dc fI cc cda) (g3 : mg "MoreWrong" = some (.ref (cs 3))) {f : Addr} {fd : FuncData} (F : L2.Fun K "spans_if" "spans_if" st_spans_if f fd) (hm : mg "spans_if" = some (.ref f)) : Xc.DefX P w K mg base cs 6 "spans_if" ["sources", "wrong"] rx_spans_if :=
  @Xc.defX_of P w K mg base cs "spans_if" st_spans_if f fd ["sources", "wrong", "word", "told"] ["sources", "wrong"] 5 rr_spans_if F hm sc_spans_if (fun _ _ _ _ _ _ us hl => match us, hl with | [_, _], _ => rfl) fun cdv A outer s H E ok tk => Xc.xss_or (Xc.xss_head (Xc.xs_expr DX_check_wrong (by decide) ok.room ok.gd tk (by rfl) (da_cons (d_var 0) (da_cons (d_var 1) (da_nil))))) (Xc.xss_plain (ds_expr (d_call ok D_check_wrong (by decide) (by rfl) (da_cons (d_var 0) (da_cons (d_var 1) (da_nil))))) (Xc.xss_plain (ds_asgT (d_call ok D_told_could (by decide) (by rfl) (da_cons (d_var 0) (da_cons (d_var 1) (da_nil)))) (dg_tup ok.calm (dgs_cons (dg_name 2 ok.nd) (dgs_cons (dg_name 3 ok.nd) (dgs_nil))))) (Xc.xss_if (i := 3) (n := 3) ok.calm tk (ok.room.mono (by decide)) e3 (d_cmp (op_eqS ok.un) n_eqS (d_var 2) (d_gstr (by rfl) T.c_MORE.choose_spec ⟨_, rfl⟩)) (by rfl) g3 (by rfl) (by first | exact Or.inl rfl | exact Or.inr (Or.inl rfl) | exact Or.inr (Or.inr rfl)) (Xc.xss_no))))
abbrev st_hull : Stmt := top 36
def body_hull : SS := sCons (sAsg 2 (sCall fn_spans_if [sVar 0, sVar 1])) (sCons (sRet (sTup [sNat nIdx [sNat nIdx [sVar 2, sC (.int 0)], sC (.int 0)], sNat nIdx [sNat nIdx [sVar 2, sNat nNeg [sC (.int 1)]], sC (.int 1)]])) (sNil))
def fn_hull : Fn := runDef 2 3 body_hull
theorem sc_hull : FnScope ["sources", "wrong", "spans"] ["sources", "wrong"] (defScope st_hull) := ⟨rfl, rfl, rfl, by decide +kernel, rfl, by decide +kernel, by decide +kernel⟩
theorem ok_hull (T : Txt mg) (D_spans_if : Def P w K mg base 6 "spans_if" ["sources", "wrong"] fn_spans_if) {f : Addr} {fd : FuncData} (F : L2.Fun K "hull" "hull" st_hull f fd) (hm : mg "hull" = some (.ref f)) : Def P w K mg base 7 "hull" ["sources", "wrong"] fn_hull :=
  @def_of P w K mg base "hull" st_hull f fd ["sources", "wrong", "spans"] ["sources", "wrong"] 6 body_hull F hm sc_hull (fun _ _ _ _ _ _ us hl => match us, hl with | [_, _], _ => rfl) (fun _ _ _ _ _ _ us hl => match us, hl with | [_, _], _ => rfl) fun cdv A outer s H ok => dss_cons (ds_asg 2 ok.nd (d_call ok D_spans_if (by decide) (by rfl) (da_cons (d_var 0) (da_cons (d_var 1) (da_nil))))) (dss_cons (ds_ret (d_tup (da_cons (d_ix (d_ix (d_var 2) (d_int)) (d_int)) (da_cons (d_ix (d_ix (d_var 2) (d_un un_neg n_neg (d_int))) (d_int)) (da_nil))))) (dss_nil))
def rr_hull : Xc.RR := Xc.rOr (Xc.rCall [sVar 0, sVar 1] rx_spans_if) (Xc.rSeq (sAsg 2 (sCall fn_spans_if [sVar 0, sVar 1])) (Xc.rNo))
def rx_hull : Xc.RX := Xc.rDef 2 3 rr_hull
theorem okX_hull (T : Txt mg) (D_spans_if : Def P w K mg base 6 "spans_if" ["sources", "wrong"] fn_spans_if) (DX_spans_if : Xc.DefX P w K mg base cs 6 "spans_if" ["sources", "wrong"] rx_spans_if) {f : Addr} {fd : FuncData} (F : L2.Fun K "hull" "hull" st_hull f fd) (hm : mg "hull" = some (.ref f)) : Xc.DefX P w K mg base cs 7 "hull" ["sources", "wrong"] rx_hull :=
  @Xc.defX_of P w K mg base cs "hull" st_hull f fd ["sources", "wrong", "spans"] ["sources", "wrong"] 6 rr_hull F hm sc_hull (fun _ _ _ _ _ _ us hl => match us, hl with | [_, _], _ => rfl) fun cdv A outer s H E ok tk => Xc.xss_or (Xc.xss_head (Xc.xs_set (i := 2) ok.nd (by rfl) (by first | exact Or.inl rfl | exact Or.inr rfl) DX_spans_if (by decide) ok.room ok.gd tk (by rfl) (da_cons (d_var 0) (da_cons (d_var 1) (da_nil))))) (Xc.xss_plain (ds_asg 2 ok.nd (d_call ok D_spans_if (by decide) (by rfl) (da_cons (d_var 0) (da_cons (d_var 1) (da_nil))))) (Xc.xss_no))
abbrev st_trimmed : Stmt := top 35
def body_trimmed : SS := sCons (sExpr (sCall fn_check_wrong [sVar 0, sVar 1])) (sCons (sPar 2 3 (sNat nSorted [sComp (sSeq (sVar 0)) (gT [gN 4, gN 5]) (sC (.bl true)) (sVar 4) [4, 5]]) (sNat nSorted [sComp (sSeq (sVar 0)) (gT [gN 4, gN 5]) (sC (.bl true)) (sVar 5) [4, 5]])) (sCons (sRet (sTup [sNat nIdx [sVar 2, sNat nSub [sNat nSub [sNat nLen [sVar 2], sC (.int 1)], sVar 1]], sNat nIdx [sVar 3, sVar 1]])) (sNil)))
def fn_trimmed : Fn := runDef 2 6 body_trimmed
theorem sc_trimmed : FnScope ["sources", "wrong", "lows", "highs", "low", "high"] ["sources", "wrong"] (defScope st_trimmed) := ⟨rfl, rfl, rfl, by decide +kernel, rfl, by decide +kernel, by decide +kernel⟩
theorem ok_trimmed (T : Txt mg) (D_check_wrong : Def P w K mg base 5 "check_wrong" ["sources", "wrong"] fn_check_wrong) {f : Addr} {fd : FuncData} (F : L2.Fun K "trimmed" "trimmed" st_trimmed f fd) (hm : mg "trimmed" = some (.ref f)) : Def P w K mg base 6 "trimmed" ["sources", "wrong"] fn_trimmed :=
  @def_of P w K mg base "trimmed" st_trimmed f fd ["sources", "wrong", "lows", "highs", "low", "high"] ["sources", "wrong"] 5 body_trimmed F hm sc_trimmed (fun _ _ _ _ _ _ us hl => match us, hl with | [_, _], _ => rfl) (fun _ _ _ _ _ _ us hl => match us, hl with | [_, _], _ => rfl) fun cdv A outer s H ok => dss_cons (ds_expr (d_call ok D_check_wrong (by decide) (by rfl) (da_cons (d_var 0) (da_cons (d_var 1) (da_nil))))) (dss_cons (ds_par 2 3 ok.calm ok.nd (da_cons (d_callB cr_sortedI n_sorted (by rfl) T.b_sorted bt_sorted (da_cons (d_comp [("low", 4), ("high", 5)] ok.calm ok.nd (di_seq (d_var 0)) (blkOk_by (by kernel_rfl)) (fun s H C cl fp => dg_tup ok.calm (dgs_cons (dg_name 4 ok.nd) (dgs_cons (dg_name 5 ok.nd) (dgs_nil)))) (fun s H C cl fp => dt_nil) (fun s H C cl fp => d_var 4) (okT (oksC (okN 4) (oksC (okN 5) (oksN))))) (da_nil))) (da_cons (d_callB cr_sortedI n_sorted (by rfl) T.b_sorted bt_sorted (da_cons (d_comp [("low", 4), ("high", 5)] ok.calm ok.nd (di_seq (d_var 0)) (blkOk_by (by kernel_rfl)) (fun s H C cl fp => dg_tup ok.calm (dgs_cons (dg_name 4 ok.nd) (dgs_cons (dg_name 5 ok.nd) (dgs_nil)))) (fun s H C cl fp => dt_nil) (fun s H C cl fp => d_var 5) (okT (oksC (okN 4) (oksC (okN 5) (oksN))))) (da_nil))) da_nil))) (dss_cons (ds_ret (d_tup (da_cons (d_ix (d_var 2) (d_op op_sub n_sub (d_op op_sub n_sub (d_callB cr_lenA n_len (by rfl) T.b_len bt_len (da_cons (d_var 2) (da_nil))) (d_int)) (d_var 1))) (da_cons (d_ix (d_var 3) (d_var 1)) (da_nil))))) (dss_nil)))
def rr_trimmed : Xc.RR := Xc.rOr (Xc.rCall [sVar 0, sVar 1] rx_check_wrong) (Xc.rSeq (sExpr (sCall fn_check_wrong [sVar 0, sVar 1])) (Xc.rNo))
def rx_trimmed : Xc.RX := Xc.rDef 2 6 rr_trimmed
theorem okX_trimmed (T : Txt mg) (D_check_wrong : Def P w K mg base 5 "check_wrong" ["sources", "wrong"] fn_check_wrong) (DX_check_wrong : Xc.DefX P w K mg base cs 5 "check_wrong" ["sources", "wrong"] rx_check_wrong) {f : Addr} {fd : FuncData} (F : L2.Fun K "trimmed" "trimmed" st_trimmed f fd) (hm : mg "trimmed" = some (.ref f)) : Xc.DefX P w K mg base cs 6 "trimmed" ["sources", "wrong"] rx_trimmed :=
  @Xc.defX_of P w K mg base cs "trimmed" st_trimmed f fd ["sources", "wrong", "lows", "highs", "low", "high"] ["sources", "wrong"] 5 rr_trimmed F hm sc_trimmed (fun _ _ _ _ _ _ us hl => match us, hl with | [_, _], _ => rfl) fun cdv A outer s H E ok tk => Xc.xss_or (Xc.xss_head (Xc.xs_expr DX_check_wrong (by decide) ok.room ok.gd tk (by rfl) (da_cons (d_var 0) (da_cons (d_var 1) (da_nil))))) (Xc.xss_plain (ds_expr (d_call ok D_check_wrong (by decide) (by rfl) (da_cons (d_var 0) (da_cons (d_var 1) (da_nil))))) (Xc.xss_no))
abbrev st_surely_right : Stmt := top 31
def body_surely_right : SS := sCons (sAsg 2 (sCall fn_spans_if [sVar 0, sVar 1])) (sCons (sAsgT (gT [gN 3, gN 4]) (sTup [sNat nIdx [sNat nIdx [sVar 2, sC (.int 0)], sC (.int 0)], sNat nIdx [sNat nIdx [sVar 2, sNat nNeg [sC (.int 1)]], sC (.int 1)]])) (sCons (sRet (sNat nTuple [sComp (sEnum (sVar 0)) (gT [gN 5, gT [gN 6, gN 7]]) (sAnd (sNat nLe [sVar 6, sVar 3]) (sNat nLe [sVar 4, sVar 7])) (sVar 5) [5, 6, 7]])) (sNil)))
def fn_surely_right : Fn := runDef 2 8 body_surely_right
theorem sc_surely_right : FnScope ["sources", "wrong", "spans", "least", "most", "at", "low", "high"] ["sources", "wrong"] (defScope st_surely_right) := ⟨rfl, rfl, rfl, by decide +kernel, rfl, by decide +kernel, by decide +kernel⟩
theorem ok_surely_right (T : Txt mg) (D_spans_if : Def P w K mg base 6 "spans_if" ["sources", "wrong"] fn_spans_if) {f : Addr} {fd : FuncData} (F : L2.Fun K "surely_right" "surely_right" st_surely_right f fd) (hm : mg "surely_right" = some (.ref f)) : Def P w K mg base 7 "surely_right" ["sources", "wrong"] fn_surely_right :=
  @def_of P w K mg base "surely_right" st_surely_right f fd ["sources", "wrong", "spans", "least", "most", "at", "low", "high"] ["sources", "wrong"] 6 body_surely_right F hm sc_surely_right (fun _ _ _ _ _ _ us hl => match us, hl with | [_, _], _ => rfl) (fun _ _ _ _ _ _ us hl => match us, hl with | [_, _], _ => rfl) fun cdv A outer s H ok => dss_cons (ds_asg 2 ok.nd (d_call ok D_spans_if (by decide) (by rfl) (da_cons (d_var 0) (da_cons (d_var 1) (da_nil))))) (dss_cons (ds_asgT (d_tup (da_cons (d_ix (d_ix (d_var 2) (d_int)) (d_int)) (da_cons (d_ix (d_ix (d_var 2) (d_un un_neg n_neg (d_int))) (d_int)) (da_nil)))) (dg_tup ok.calm (dgs_cons (dg_name 3 ok.nd) (dgs_cons (dg_name 4 ok.nd) (dgs_nil))))) (dss_cons (ds_ret (d_callT call_tuple_of n_tuple (by rfl) T.b_tuple bt_tuple (da_cons (d_comp [("at", 5), ("low", 6), ("high", 7)] ok.calm ok.nd (di_enum (by rfl) T.b_enumerate (d_var 0)) (blkOk_by (by kernel_rfl)) (fun s H C cl fp => dg_tup ok.calm (dgs_cons (dg_name 5 ok.nd) (dgs_cons (dg_tup ok.calm (dgs_cons (dg_name 6 ok.nd) (dgs_cons (dg_name 7 ok.nd) (dgs_nil)))) (dgs_nil)))) (fun s H C cl fp => dt_one ((db_and (d_cmp op_le n_le (d_var 6) (d_var 3)) (db_and1 (d_cmp op_le n_le (d_var 4) (d_var 7)))).de)) (fun s H C cl fp => d_var 5) (okT (oksC (okN 5) (oksC (okT (oksC (okN 6) (oksC (okN 7) (oksN)))) (oksN))))) (da_nil)))) (dss_nil)))
def rr_surely_right : Xc.RR := Xc.rOr (Xc.rCall [sVar 0, sVar 1] rx_spans_if) (Xc.rSeq (sAsg 2 (sCall fn_spans_if [sVar 0, sVar 1])) (Xc.rNo))
def rx_surely_right : Xc.RX := Xc.rDef 2 8 rr_surely_right
theorem okX_surely_right (T : Txt mg) (D_spans_if : Def P w K mg base 6 "spans_if" ["sources", "wrong"] fn_spans_if) (DX_spans_if : Xc.DefX P w K mg base cs 6 "spans_if" ["sources", "wrong"] rx_spans_if) {f : Addr} {fd : FuncData} (F : L2.Fun K "surely_right" "surely_right" st_surely_right f fd) (hm : mg "surely_right" = some (.ref f)) : Xc.DefX P w K mg base cs 7 "surely_right" ["sources", "wrong"] rx_surely_right :=
  @Xc.defX_of P w K mg base cs "surely_right" st_surely_right f fd ["sources", "wrong", "spans", "least", "most", "at", "low", "high"] ["sources", "wrong"] 6 rr_surely_right F hm sc_surely_right (fun _ _ _ _ _ _ us hl => match us, hl with | [_, _], _ => rfl) fun cdv A outer s H E ok tk => Xc.xss_or (Xc.xss_head (Xc.xs_set (i := 2) ok.nd (by rfl) (by first | exact Or.inl rfl | exact Or.inr rfl) DX_spans_if (by decide) ok.room ok.gd tk (by rfl) (da_cons (d_var 0) (da_cons (d_var 1) (da_nil))))) (Xc.xss_plain (ds_asg 2 ok.nd (d_call ok D_spans_if (by decide) (by rfl) (da_cons (d_var 0) (da_cons (d_var 1) (da_nil))))) (Xc.xss_no))
abbrev st_surely_wrong : Stmt := top 32
def body_surely_wrong : SS := sCons (sPar 2 3 (sCall fn_spans_if [sVar 0, sVar 1]) (sLst [])) (sCons (sFor (sEnum (sVar 0)) (gT [gN 4, gT [gN 5, gN 6]]) (sCons (sIfS (sNot (sNat nAny [sComp (sSeq (sVar 2)) (gT [gN 7, gN 8]) (sC (.bl true)) (sAnd (sNat nLe [sVar 7, sVar 6]) (sNat nLe [sVar 5, sVar 8])) [7, 8]])) (sCons (sExpr (sMut 3 mAppend [sVar 4])) (sNil)) (sNil)) (sNil))) (sCons (sRet (sNat nTuple [sVar 3])) (sNil)))
def fn_surely_wrong : Fn := runDef 2 9 body_surely_wrong
theorem sc_surely_wrong : FnScope ["sources", "wrong", "spans", "found", "at", "low", "high", "least", "most"] ["sources", "wrong"] (defScope st_surely_wrong) := ⟨rfl, rfl, rfl, by decide +kernel, rfl, by decide +kernel, by decide +kernel⟩
theorem ok_surely_wrong (T : Txt mg) (D_spans_if : Def P w K mg base 6 "spans_if" ["sources", "wrong"] fn_spans_if) {f : Addr} {fd : FuncData} (F : L2.Fun K "surely_wrong" "surely_wrong" st_surely_wrong f fd) (hm : mg "surely_wrong" = some (.ref f)) : Def P w K mg base 7 "surely_wrong" ["sources", "wrong"] fn_surely_wrong :=
  @def_of P w K mg base "surely_wrong" st_surely_wrong f fd ["sources", "wrong", "spans", "found", "at", "low", "high", "least", "most"] ["sources", "wrong"] 6 body_surely_wrong F hm sc_surely_wrong (fun _ _ _ _ _ _ us hl => match us, hl with | [_, _], _ => rfl) (fun _ _ _ _ _ _ us hl => match us, hl with | [_, _], _ => rfl) fun cdv A outer s H ok => dss_cons (ds_par 2 3 ok.calm ok.nd (da_cons (d_call ok D_spans_if (by decide) (by rfl) (da_cons (d_var 0) (da_cons (d_var 1) (da_nil)))) (da_cons (d_lst (da_nil)) da_nil))) (dss_cons (ds_for ok.po ok.calm (di_enum (by rfl) T.b_enumerate (d_var 0)) (dg_tup ok.calm (dgs_cons (dg_name 4 ok.nd) (dgs_cons (dg_tup ok.calm (dgs_cons (dg_name 5 ok.nd) (dgs_cons (dg_name 6 ok.nd) (dgs_nil)))) (dgs_nil)))) (dss_cons (ds_if (d_not (d_callB (cr_any ok.calm) n_any (by rfl) T.b_any bt_any (da_cons (d_comp [("least", 7), ("most", 8)] ok.calm ok.nd (di_seq (d_var 2)) (blkOk_by (by kernel_rfl)) (fun s H C cl fp => dg_tup ok.calm (dgs_cons (dg_name 7 ok.nd) (dgs_cons (dg_name 8 ok.nd) (dgs_nil)))) (fun s H C cl fp => dt_nil) (fun s H C cl fp => (db_and (d_cmp op_le n_le (d_var 7) (d_var 6)) (db_and1 (d_cmp op_le n_le (d_var 5) (d_var 8)))).de) (okT (oksC (okN 7) (oksC (okN 8) (oksN))))) (da_nil)))) (dss_cons (ds_expr (d_mut 3 PySem.F.slot_list_append PySem.F.type_list_append mt_append m_append (da_cons (d_var 4) (da_nil)))) (dss_nil)) (dss_nil)) (dss_nil))) (dss_cons (ds_ret (d_callT call_tuple_of n_tuple (by rfl) T.b_tuple bt_tuple (da_cons (d_var 3) (da_nil)))) (dss_nil)))
def rr_surely_wrong : Xc.RR := Xc.rOr (Xc.rCall [sVar 0, sVar 1] rx_spans_if) (Xc.rSeq (sPar 2 3 (sCall fn_spans_if [sVar 0, sVar 1]) (sLst [])) (Xc.rNo))
def rx_surely_wrong : Xc.RX := Xc.rDef 2 9 rr_surely_wrong
theorem okX_surely_wrong (T : Txt mg) (D_spans_if : Def P w K mg base 6 "spans_if" ["sources", "wrong"] fn_spans_if) (DX_spans_if : Xc.DefX P w K mg base cs 6 "spans_if" ["sources", "wrong"] rx_spans_if) {f : Addr} {fd : FuncData} (F : L2.Fun K "surely_wrong" "surely_wrong" st_surely_wrong f fd) (hm : mg "surely_wrong" = some (.ref f)) : Xc.DefX P w K mg base cs 7 "surely_wrong" ["sources", "wrong"] rx_surely_wrong :=
  @Xc.defX_of P w K mg base cs "surely_wrong" st_surely_wrong f fd ["sources", "wrong", "spans", "found", "at", "low", "high", "least", "most"] ["sources", "wrong"] 6 rr_surely_wrong F hm sc_surely_wrong (fun _ _ _ _ _ _ us hl => match us, hl with | [_, _], _ => rfl) fun cdv A outer s H E ok tk => Xc.xss_or (Xc.xss_head (Xc.xs_par (i := 2) (i2 := 3) ok.calm ok.nd (by rfl) (by rfl) (by decide) (by rfl) (by rfl) DX_spans_if (by decide) ok.room ok.gd tk (by rfl) (da_cons (d_var 0) (da_cons (d_var 1) (da_nil))) (d_lst (da_nil)).pe (by rfl))) (Xc.xss_plain (ds_par 2 3 ok.calm ok.nd (da_cons (d_call ok D_spans_if (by decide) (by rfl) (da_cons (d_var 0) (da_cons (d_var 1) (da_nil)))) (da_cons (d_lst (da_nil)) da_nil))) (Xc.xss_no))
abbrev st_pulled : Stmt := top 37
def body_pulled : SS := sCons (sExpr (sCall fn_check_wrong [sVar 0, sVar 1])) (sCons (sIfS (sNot (sCall fn_is_between [sVar 2, sC (.int 0), sNat nSub [sNat nLen [sVar 0], sC (.int 1)]])) (sCons ((fun _ => .bad)) (sNil)) (sNil)) (sCons (sAsg 3 (sComp (sEnum (sVar 0)) (gT [gN 6, gN 7]) (sNat nNeS [sVar 6, sVar 2]) (sVar 7) [6, 7])) (sCons (sAsg 4 (sNat nSub [sNat nSub [sNat nLen [sVar 0], sVar 1], sC (.int 1)])) (sCons (sIfS (sNat nLt [sVar 4, sC (.int 1)]) (sCons (sRet (sTup [sNat nSub [sC (.int 0), sC (.int 99999)], sC (.int 99999)])) (sNil)) (sNil)) (sCons (sAsg 5 (sCall fn_told_agreed [sVar 3, sVar 4])) (sCons (sRet (sIf (sNat nEqS [sVar 5, sTup []]) (sC (.non)) (sTup [sNat nIdx [sNat nIdx [sVar 5, sC (.int 0)], sC (.int 0)], sNat nIdx [sNat nIdx [sVar 5, sNat nNeg [sC (.int 1)]], sC (.int 1)]]))) (sNil)))))))
def fn_pulled : Fn := runDef 3 8 body_pulled
theorem sc_pulled : FnScope ["sources", "wrong", "at", "others", "many", "spans", "to", "one"] ["sources", "wrong", "at"] (defScope st_pulled) := ⟨rfl, rfl, rfl, by decide +kernel, rfl, by decide +kernel, by decide +kernel⟩
theorem ok_pulled (T : Txt mg) (D_check_wrong : Def P w K mg base 5 "check_wrong" ["sources", "wrong"] fn_check_wrong) (D_told_agreed : Def P w K mg base 3 "told_agreed" ["sources", "many"] fn_told_agreed) (D_is_between : Def P w K mg base 2 "is_between" ["value", "least", "most"] fn_is_between) {f : Addr} {fd : FuncData} (F : L2.Fun K "pulled" "pulled" st_pulled f fd) (hm : mg "pulled" = some (.ref f)) : Def P w K mg base 6 "pulled" ["sources", "wrong", "at"] fn_pulled :=
  @def_of P w K mg base "pulled" st_pulled f fd ["sources", "wrong", "at", "others", "many", "spans", "to", "one"] ["sources", "wrong", "at"] 5 body_pulled F hm sc_pulled (fun _ _ _ _ _ _ us hl => match us, hl with | [_, _, _], _ => rfl) (fun _ _ _ _ _ _ us hl => match us, hl with | [_, _, _], _ => rfl) fun cdv A outer s H ok => dss_cons (ds_expr (d_call ok D_check_wrong (by decide) (by rfl) (da_cons (d_var 0) (da_cons (d_var 1) (da_nil))))) (dss_cons (ds_if (d_not (d_call ok D_is_between (by decide) (by rfl) (da_cons (d_var 2) (da_cons (d_int) (da_cons (d_op op_sub n_sub (d_callB cr_lenA n_len (by rfl) T.b_len bt_len (da_cons (d_var 0) (da_nil))) (d_int)) (da_nil)))))) (dss_cons (ds_never) (dss_nil)) (dss_nil)) (dss_cons (ds_asgLc 3 [("to", 6), ("one", 7)] ok.calm ok.nd (di_enum (by rfl) T.b_enumerate (d_var 0)) (blkOk_by (by kernel_rfl)) (fun s H C cl fp => dg_tup ok.calm (dgs_cons (dg_name 6 ok.nd) (dgs_cons (dg_name 7 ok.nd) (dgs_nil)))) (fun s H C cl fp => inBlk (ok.blk s H _ _ fp) fun ok => dt_one (d_cmp (op_neS ok.un) n_neS (d_var 6) (d_var 2))) (fun s H C cl fp => d_var 7) (okT (oksC (okN 6) (oksC (okN 7) (oksN))))) (dss_cons (ds_asg 4 ok.nd (d_op op_sub n_sub (d_op op_sub n_sub (d_callB cr_lenA n_len (by rfl) T.b_len bt_len (da_cons (d_var 0) (da_nil))) (d_var 1)) (d_int))) (dss_cons (ds_if (d_cmp op_lt n_lt (d_var 4) (d_int)) (dss_cons (ds_ret (d_tup (da_cons (d_op op_sub n_sub (d_int) (d_gint (by rfl) T.c_MOST_FAR.choose_spec ⟨_, rfl⟩)) (da_cons (d_gint (by rfl) T.c_MOST_FAR.choose_spec ⟨_, rfl⟩) (da_nil))))) (dss_nil)) (dss_nil)) (dss_cons (ds_asg 5 ok.nd (d_call ok D_told_agreed (by decide) (by rfl) (da_cons (d_var 3) (da_cons (d_var 4) (da_nil))))) (dss_cons (ds_ret (d_if (d_cmp (op_eqS ok.un) n_eqS (d_var 5) (d_tup (da_nil))) (d_non) (d_tup (da_cons (d_ix (d_ix (d_var 5) (d_int)) (d_int)) (da_cons (d_ix (d_ix (d_var 5) (d_un un_neg n_neg (d_int))) (d_int)) (da_nil)))))) (dss_nil)))))))
def rr_pulled : Xc.RR := Xc.rOr (Xc.rCall [sVar 0, sVar 1] rx_check_wrong) (Xc.rSeq (sExpr (sCall fn_check_wrong [sVar 0, sVar 1])) (Xc.rIf (sNot (sCall fn_is_between [sVar 2, sC (.int 0), sNat nSub [sNat nLen [sVar 0], sC (.int 1)]])) 2 1 (Xc.rNo)))
def rx_pulled : Xc.RX := Xc.rDef 3 8 rr_pulled
theorem okX_pulled (T : Txt mg) (D_is_between : Def P w K mg base 2 "is_between" ["value", "least", "most"] fn_is_between) (D_check_wrong : Def P w K mg base 5 "check_wrong" ["sources", "wrong"] fn_check_wrong) (DX_check_wrong : Xc.DefX P w K mg base cs 5 "check_wrong" ["sources", "wrong"] rx_check_wrong) (e1 : Xc.ErrC P K (cs 1) Dc fI cc cda) (g1 : mg "BadNumber" = some (.ref (cs 1))) {f : Addr} {fd : FuncData} (F : L2.Fun K "pulled" "pulled" st_pulled f fd) (hm : mg "pulled" = some (.ref f)) : Xc.DefX P w K mg base cs 6 "pulled" ["sources", "wrong", "at"] rx_pulled :=
  @Xc.defX_of P w K mg base cs "pulled" st_pulled f fd ["sources", "wrong", "at", "others", "many", "spans", "to", "one"] ["sources", "wrong", "at"] 5 rr_pulled F hm sc_pulled (fun _ _ _ _ _ _ us hl => match us, hl with | [_, _, _], _ => rfl) fun cdv A outer s H E ok tk => Xc.xss_or (Xc.xss_head (Xc.xs_expr DX_check_wrong (by decide) ok.room ok.gd tk (by rfl) (da_cons (d_var 0) (da_cons (d_var 1) (da_nil))))) (Xc.xss_plain (ds_expr (d_call ok D_check_wrong (by decide) (by rfl) (da_cons (d_var 0) (da_cons (d_var 1) (da_nil))))) (Xc.xss_if (i := 2) (n := 1) ok.calm tk (ok.room.mono (by decide)) e1 (d_not (d_call ok D_is_between (by decide) (by rfl) (da_cons (d_var 2) (da_cons (d_int) (da_cons (d_op op_sub n_sub (d_callB cr_lenA n_len (by rfl) T.b_len bt_len (da_cons (d_var 0) (da_nil))) (d_int)) (da_nil)))))) (by rfl) g1 (by rfl) (by first | exact Or.inl rfl | exact Or.inr (Or.inl rfl) | exact Or.inr (Or.inr rfl)) (Xc.xss_no)))
abbrev st_weighed : Stmt := top 33
def body_weighed : SS := sCons (sExpr (sCall fn_check_sources [sVar 0])) (sCons (sIfS (sOr (sNot (sNat (nIsi "tuple") [sVar 1])) (sNat nNeS [sNat nLen [sVar 1], sNat nLen [sVar 0]])) (sCons ((fun _ => .bad)) (sNil)) (sNil)) (sCons (sIfS (sNot (sNat nAll [sComp (sSeq (sVar 1)) (gN 4) (sC (.bl true)) (sCall fn_is_between [sVar 4, sC (.int 0), sC (.int 99)]) [4]])) (sCons ((fun _ => .bad)) (sNil)) (sNil)) (sCons (sIfS (sNot (sCall fn_is_between [sVar 2, sC (.int 1), sNat nMul [sC (.int 20), sC (.int 99)]])) (sCons ((fun _ => .bad)) (sNil)) (sNil)) (sCons (sAsg 3 (sCall fn_pieces_of [sVar 0])) (sCons (sRet (sCall fn_joined [sComp (sSeq (sVar 3)) (gT [gN 5, gN 6, gN 7]) (sNat nGe [sNat nSum [sComp (sSeq (sVar 7)) (gN 8) (sC (.bl true)) (sNat nIdx [sVar 1, sVar 8]) [8]], sVar 2]) (sTup [sVar 5, sVar 6]) [5, 6, 7]])) (sNil))))))
def fn_weighed : Fn := runDef 3 9 body_weighed
theorem sc_weighed : FnScope ["sources", "weights", "enough", "rows", "weight", "least", "most", "some", "at"] ["sources", "weights", "enough"] (defScope st_weighed) := ⟨rfl, rfl, rfl, by decide +kernel, rfl, by decide +kernel, by decide +kernel⟩
theorem ok_weighed (T : Txt mg) (D_check_sources : Def P w K mg base 4 "check_sources" ["sources"] fn_check_sources) (D_pieces_of : Def P w K mg base 2 "pieces_of" ["sources"] fn_pieces_of) (D_joined : Def P w K mg base 1 "joined" ["rows"] fn_joined) (D_is_between : Def P w K mg base 2 "is_between" ["value", "least", "most"] fn_is_between) {f : Addr} {fd : FuncData} (F : L2.Fun K "weighed" "weighed" st_weighed f fd) (hm : mg "weighed" = some (.ref f)) : Def P w K mg base 5 "weighed" ["sources", "weights", "enough"] fn_weighed :=
  @def_of P w K mg base "weighed" st_weighed f fd ["sources", "weights", "enough", "rows", "weight", "least", "most", "some", "at"] ["sources", "weights", "enough"] 4 body_weighed F hm sc_weighed (fun _ _ _ _ _ _ us hl => match us, hl with | [_, _, _], _ => rfl) (fun _ _ _ _ _ _ us hl => match us, hl with | [_, _, _], _ => rfl) fun cdv A outer s H ok => dss_cons (ds_expr (d_call ok D_check_sources (by decide) (by rfl) (da_cons (d_var 0) (da_nil)))) (dss_cons (ds_if ((db_or (d_not (d_isi (by rfl) T.b_isinstance (by rfl) T.b_tuple bt_tuple (d_var 1))) (db_or1 (d_cmp (op_neS ok.un) n_neS (d_callB cr_lenA n_len (by rfl) T.b_len bt_len (da_cons (d_var 1) (da_nil))) (d_callB cr_lenA n_len (by rfl) T.b_len bt_len (da_cons (d_var 0) (da_nil)))))).de) (dss_cons (ds_never) (dss_nil)) (dss_nil)) (dss_cons (ds_if (d_not (d_callB (cr_all ok.calm) n_all (by rfl) T.b_all bt_all (da_cons (d_comp [("weight", 4)] ok.calm ok.nd (di_seq (d_var 1)) (blkOk_by (by kernel_rfl)) (fun s H C cl fp => dg_name 4 ok.nd) (fun s H C cl fp => dt_nil) (fun s H C cl fp => inBlk (ok.blk s H _ _ fp) fun ok => d_call ok D_is_between (by decide) (by rfl) (da_cons (d_var 4) (da_cons (d_int) (da_cons (d_gint (by rfl) T.c_MOST_WEIGHT.choose_spec ⟨_, rfl⟩) (da_nil))))) (okN 4)) (da_nil)))) (dss_cons (ds_never) (dss_nil)) (dss_nil)) (dss_cons (ds_if (d_not (d_call ok D_is_between (by decide) (by rfl) (da_cons (d_var 2) (da_cons (d_int) (da_cons (d_op op_mulX n_mul (d_gint (by rfl) T.c_MOST_SOURCES.choose_spec ⟨_, rfl⟩) (d_gint (by rfl) T.c_MOST_WEIGHT.choose_spec ⟨_, rfl⟩)) (da_nil)))))) (dss_cons (ds_never) (dss_nil)) (dss_nil)) (dss_cons (ds_asg 3 ok.nd (d_call ok D_pieces_of (by decide) (by rfl) (da_cons (d_var 0) (da_nil)))) (dss_cons (ds_ret (d_call ok D_joined (by decide) (by rfl) (da_cons (d_comp [("least", 5), ("most", 6), ("some", 7)] ok.calm ok.nd (di_seq (d_var 3)) (blkOk_by (by kernel_rfl)) (fun s H C cl fp => dg_tup ok.calm (dgs_cons (dg_name 5 ok.nd) (dgs_cons (dg_name 6 ok.nd) (dgs_cons (dg_name 7 ok.nd) (dgs_nil))))) (fun s H C cl fp => inBlk (ok.blk s H _ _ fp) fun ok => dt_one (d_cmp op_ge n_ge (d_callB (cr_sum ok.calm) n_sum (by rfl) T.b_sum bt_sum (da_cons (d_comp [("at", 8)] ok.calm ok.nd (di_seq (d_var 7)) (blkOk_by (by kernel_rfl)) (fun s H C cl fp => dg_name 8 ok.nd) (fun s H C cl fp => dt_nil) (fun s H C cl fp => d_ix (d_var 1) (d_var 8)) (okN 8)) (da_nil))) (d_var 2))) (fun s H C cl fp => d_tup (da_cons (d_var 5) (da_cons (d_var 6) (da_nil)))) (okT (oksC (okN 5) (oksC (okN 6) (oksC (okN 7) (oksN)))))) (da_nil)))) (dss_nil))))))
def rr_weighed : Xc.RR := Xc.rOr (Xc.rCall [sVar 0] rx_check_sources) (Xc.rSeq (sExpr (sCall fn_check_sources [sVar 0])) (Xc.rIf (sOr (sNot (sNat (nIsi "tuple") [sVar 1])) (sNat nNeS [sNat nLen [sVar 1], sNat nLen [sVar 0]])) 1 2 (Xc.rIf (sNot (sNat nAll [sComp (sSeq (sVar 1)) (gN 4) (sC (.bl true)) (sCall fn_is_between [sVar 4, sC (.int 0), sC (.int 99)]) [4]])) 1 2 (Xc.rIf (sNot (sCall fn_is_between [sVar 2, sC (.int 1), sNat nMul [sC (.int 20), sC (.int 99)]])) 2 1 (Xc.rNo)))))
def rx_weighed : Xc.RX := Xc.rDef 3 9 rr_weighed
theorem okX_weighed (T : Txt mg) (D_is_between : Def P w K mg base 2 "is_between" ["value", "least", "most"] fn_is_between) (D_check_sources : Def P w K mg base 4 "check_sources" ["sources"] fn_check_sources) (DX_check_sources : Xc.DefX P w K mg base cs 4 "check_sources" ["sources"] rx_check_sources) (e1 : Xc.ErrC P K (cs 1) Dc fI cc cda) (g1 : mg "BadNumber" = some (.ref (cs 1))) (e2 : Xc.ErrC P K (cs 2) Dc fI cc cda) (g2 : mg "BadWeights" = some (.ref (cs 2))) {f : Addr} {fd : FuncData} (F : L2.Fun K "weighed" "weighed" st_weighed f fd) (hm : mg "weighed" = some (.ref f)) : Xc.DefX P w K mg base cs 5 "weighed" ["sources", "weights", "enough"] rx_weighed :=
  @Xc.defX_of P w K mg base cs "weighed" st_weighed f fd ["sources", "weights", "enough", "rows", "weight", "least", "most", "some", "at"] ["sources", "weights", "enough"] 4 rr_weighed F hm sc_weighed (fun _ _ _ _ _ _ us hl => match us, hl with | [_, _, _], _ => rfl) fun cdv A outer s H E ok tk => Xc.xss_or (Xc.xss_head (Xc.xs_expr DX_check_sources (by decide) ok.room ok.gd tk (by rfl) (da_cons (d_var 0) (da_nil)))) (Xc.xss_plain (ds_expr (d_call ok D_check_sources (by decide) (by rfl) (da_cons (d_var 0) (da_nil)))) (Xc.xss_if (i := 1) (n := 2) ok.calm tk (ok.room.mono (by decide)) e2 ((db_or (d_not (d_isi (by rfl) T.b_isinstance (by rfl) T.b_tuple bt_tuple (d_var 1))) (db_or1 (d_cmp (op_neS ok.un) n_neS (d_callB cr_lenA n_len (by rfl) T.b_len bt_len (da_cons (d_var 1) (da_nil))) (d_callB cr_lenA n_len (by rfl) T.b_len bt_len (da_cons (d_var 0) (da_nil)))))).de) (by rfl) g2 (by rfl) (by first | exact Or.inl rfl | exact Or.inr (Or.inl rfl) | exact Or.inr (Or.inr rfl)) (Xc.xss_if (i := 1) (n := 2) ok.calm tk (ok.room.mono (by decide)) e2 (d_not (d_callB (cr_all ok.calm) n_all (by rfl) T.b_all bt_all (da_cons (d_comp [("weight", 4)] ok.calm ok.nd (di_seq (d_var 1)) (blkOk_by (by kernel_rfl)) (fun s H C cl fp => dg_name 4 ok.nd) (fun s H C cl fp => dt_nil) (fun s H C cl fp => inBlk (ok.blk s H _ _ fp) fun ok => d_call ok D_is_between (by decide) (by rfl) (da_cons (d_var 4) (da_cons (d_int) (da_cons (d_gint (by rfl) T.c_MOST_WEIGHT.choose_spec ⟨_, rfl⟩) (da_nil))))) (okN 4)) (da_nil)))) (by rfl) g2 (by rfl) (by first | exact Or.inl rfl | exact Or.inr (Or.inl rfl) | exact Or.inr (Or.inr rfl)) (Xc.xss_if (i := 2) (n := 1) ok.calm tk (ok.room.mono (by decide)) e1 (d_not (d_call ok D_is_between (by decide) (by rfl) (da_cons (d_var 2) (da_cons (d_int) (da_cons (d_op op_mulX n_mul (d_gint (by rfl) T.c_MOST_SOURCES.choose_spec ⟨_, rfl⟩) (d_gint (by rfl) T.c_MOST_WEIGHT.choose_spec ⟨_, rfl⟩)) (da_nil)))))) (by rfl) g1 (by rfl) (by first | exact Or.inl rfl | exact Or.inr (Or.inl rfl) | exact Or.inr (Or.inr rfl)) (Xc.xss_no)))))
abbrev st_agreed : Stmt := top 24
def body_agreed : SS := sCons (sExpr (sCall fn_check_sources [sVar 0])) (sCons (sIfS (sNot (sCall fn_is_between [sVar 1, sC (.int 1), sNat nLen [sVar 0]])) (sCons ((fun _ => .bad)) (sNil)) (sNil)) (sCons (sRet (sCall fn_told_agreed [sVar 0, sVar 1])) (sNil)))
def fn_agreed : Fn := runDef 2 2 body_agreed
theorem sc_agreed : FnScope ["sources", "many"] ["sources", "many"] (defScope st_agreed) := ⟨rfl, rfl, rfl, by decide +kernel, rfl, by decide +kernel, by decide +kernel⟩
theorem ok_agreed (T : Txt mg) (D_check_sources : Def P w K mg base 4 "check_sources" ["sources"] fn_check_sources) (D_told_agreed : Def P w K mg base 3 "told_agreed" ["sources", "many"] fn_told_agreed) (D_is_between : Def P w K mg base 2 "is_between" ["value", "least", "most"] fn_is_between) {f : Addr} {fd : FuncData} (F : L2.Fun K "agreed" "agreed" st_agreed f fd) (hm : mg "agreed" = some (.ref f)) : Def P w K mg base 5 "agreed" ["sources", "many"] fn_agreed :=
  @def_of P w K mg base "agreed" st_agreed f fd ["sources", "many"] ["sources", "many"] 4 body_agreed F hm sc_agreed (fun _ _ _ _ _ _ us hl => match us, hl with | [_, _], _ => rfl) (fun _ _ _ _ _ _ us hl => match us, hl with | [_, _], _ => rfl) fun cdv A outer s H ok => dss_cons (ds_expr (d_call ok D_check_sources (by decide) (by rfl) (da_cons (d_var 0) (da_nil)))) (dss_cons (ds_if (d_not (d_call ok D_is_between (by decide) (by rfl) (da_cons (d_var 1) (da_cons (d_int) (da_cons (d_callB cr_lenA n_len (by rfl) T.b_len bt_len (da_cons (d_var 0) (da_nil))) (da_nil)))))) (dss_cons (ds_never) (dss_nil)) (dss_nil)) (dss_cons (ds_ret (d_call ok D_told_agreed (by decide) (by rfl) (da_cons (d_var 0) (da_cons (d_var 1) (da_nil))))) (dss_nil)))
def rr_agreed : Xc.RR := Xc.rOr (Xc.rCall [sVar 0] rx_check_sources) (Xc.rSeq (sExpr (sCall fn_check_sources [sVar 0])) (Xc.rIf (sNot (sCall fn_is_between [sVar 1, sC (.int 1), sNat nLen [sVar 0]])) 1 1 (Xc.rNo)))
def rx_agreed : Xc.RX := Xc.rDef 2 2 rr_agreed
theorem okX_agreed (T : Txt mg) (D_is_between : Def P w K mg base 2 "is_between" ["value", "least", "most"] fn_is_between) (D_check_sources : Def P w K mg base 4 "check_sources" ["sources"] fn_check_sources) (DX_check_sources : Xc.DefX P w K mg base cs 4 "check_sources" ["sources"] rx_check_sources) (e1 : Xc.ErrC P K (cs 1) Dc fI cc cda) (g1 : mg "BadNumber" = some (.ref (cs 1))) {f : Addr} {fd : FuncData} (F : L2.Fun K "agreed" "agreed" st_agreed f fd) (hm : mg "agreed" = some (.ref f)) : Xc.DefX P w K mg base cs 5 "agreed" ["sources", "many"] rx_agreed :=
  @Xc.defX_of P w K mg base cs "agreed" st_agreed f fd ["sources", "many"] ["sources", "many"] 4 rr_agreed F hm sc_agreed (fun _ _ _ _ _ _ us hl => match us, hl with | [_, _], _ => rfl) fun cdv A outer s H E ok tk => Xc.xss_or (Xc.xss_head (Xc.xs_expr DX_check_sources (by decide) ok.room ok.gd tk (by rfl) (da_cons (d_var 0) (da_nil)))) (Xc.xss_plain (ds_expr (d_call ok D_check_sources (by decide) (by rfl) (da_cons (d_var 0) (da_nil)))) (Xc.xss_if (i := 1) (n := 1) ok.calm tk (ok.room.mono (by decide)) e1 (d_not (d_call ok D_is_between (by decide) (by rfl) (da_cons (d_var 1) (da_cons (d_int) (da_cons (d_callB cr_lenA n_len (by rfl) T.b_len bt_len (da_cons (d_var 0) (da_nil))) (da_nil)))))) (by rfl) g1 (by rfl) (by first | exact Or.inl rfl | exact Or.inr (Or.inl rfl) | exact Or.inr (Or.inr rfl)) (Xc.xss_no)))
abbrev st_lots_right : Stmt := top 27
def body_lots_right : SS := sCons (sExpr (sCall fn_check_sources [sVar 0])) (sCons (sAsg 1 (sCall fn_most_agreed [sVar 0])) (sCons (sRet (sNat nTuple [sNat nSortSet [sComp (sSeq (sCall fn_pieces_of [sVar 0])) (gT [gN 2, gN 3, gN 4]) (sNat nEqS [sNat nLen [sVar 4], sVar 1]) (sNat nTuple [sVar 4]) [2, 3, 4]]])) (sNil)))
def fn_lots_right : Fn := runDef 1 5 body_lots_right
theorem sc_lots_right : FnScope ["sources", "number", "least", "most", "some"] ["sources"] (defScope st_lots_right) := ⟨rfl, rfl, rfl, by decide +kernel, rfl, by decide +kernel, by decide +kernel⟩
theorem ok_lots_right (T : Txt mg) (D_check_sources : Def P w K mg base 4 "check_sources" ["sources"] fn_check_sources) (D_most_agreed : Def P w K mg base 3 "most_agreed" ["sources"] fn_most_agreed) (D_pieces_of : Def P w K mg base 2 "pieces_of" ["sources"] fn_pieces_of) {f : Addr} {fd : FuncData} (F : L2.Fun K "lots_right" "lots_right" st_lots_right f fd) (hm : mg "lots_right" = some (.ref f)) : Def P w K mg base 5 "lots_right" ["sources"] fn_lots_right :=
  @def_of P w K mg base "lots_right" st_lots_right f fd ["sources", "number", "least", "most", "some"] ["sources"] 4 body_lots_right F hm sc_lots_right (fun _ _ _ _ _ _ us hl => match us, hl with | [_], _ => rfl) (fun _ _ _ _ _ _ us hl => match us, hl with | [_], _ => rfl) fun cdv A outer s H ok => dss_cons (ds_expr (d_call ok D_check_sources (by decide) (by rfl) (da_cons (d_var 0) (da_nil)))) (dss_cons (ds_asg 1 ok.nd (d_call ok D_most_agreed (by decide) (by rfl) (da_cons (d_var 0) (da_nil)))) (dss_cons (ds_ret (d_callT call_tuple_of n_tuple (by rfl) T.b_tuple bt_tuple (da_cons (d_sortSet ok (by rfl) T.b_sorted (by rfl) T.b_set (d_comp [("least", 2), ("most", 3), ("some", 4)] ok.calm ok.nd (di_seq (d_call ok D_pieces_of (by decide) (by rfl) (da_cons (d_var 0) (da_nil)))) (blkOk_by (by kernel_rfl)) (fun s H C cl fp => dg_tup ok.calm (dgs_cons (dg_name 2 ok.nd) (dgs_cons (dg_name 3 ok.nd) (dgs_cons (dg_name 4 ok.nd) (dgs_nil))))) (fun s H C cl fp => inBlk (ok.blk s H _ _ fp) fun ok => dt_one (d_cmp (op_eqS ok.un) n_eqS (d_callB cr_lenA n_len (by rfl) T.b_len bt_len (da_cons (d_var 4) (da_nil))) (d_var 1))) (fun s H C cl fp => d_callT call_tuple_of n_tuple (by rfl) T.b_tuple bt_tuple (da_cons (d_var 4) (da_nil))) (okT (oksC (okN 2) (oksC (okN 3) (oksC (okN 4) (oksN))))))) (da_nil)))) (dss_nil)))
def rr_lots_right : Xc.RR := Xc.rOr (Xc.rCall [sVar 0] rx_check_sources) (Xc.rSeq (sExpr (sCall fn_check_sources [sVar 0])) (Xc.rNo))
def rx_lots_right : Xc.RX := Xc.rDef 1 5 rr_lots_right
theorem okX_lots_right (T : Txt mg) (D_check_sources : Def P w K mg base 4 "check_sources" ["sources"] fn_check_sources) (DX_check_sources : Xc.DefX P w K mg base cs 4 "check_sources" ["sources"] rx_check_sources) {f : Addr} {fd : FuncData} (F : L2.Fun K "lots_right" "lots_right" st_lots_right f fd) (hm : mg "lots_right" = some (.ref f)) : Xc.DefX P w K mg base cs 5 "lots_right" ["sources"] rx_lots_right :=
  @Xc.defX_of P w K mg base cs "lots_right" st_lots_right f fd ["sources", "number", "least", "most", "some"] ["sources"] 4 rr_lots_right F hm sc_lots_right (fun _ _ _ _ _ _ us hl => match us, hl with | [_], _ => rfl) fun cdv A outer s H E ok tk => Xc.xss_or (Xc.xss_head (Xc.xs_expr DX_check_sources (by decide) ok.room ok.gd tk (by rfl) (da_cons (d_var 0) (da_nil)))) (Xc.xss_plain (ds_expr (d_call ok D_check_sources (by decide) (by rfl) (da_cons (d_var 0) (da_nil)))) (Xc.xss_no))
abbrev st__law_right : Stmt := top 46
def looksE : List LE := [
  ⟨[sVar 3, sVar 11], rx_have, 0, sVar 3⟩,
  ⟨[sVar 3, sVar 13], rx_agreed, 0, sVar 3⟩,
  ⟨[sVar 3], rx_best_agreed, 0, sVar 3⟩,
  ⟨[sVar 3], rx_lots_right, 0, sVar 3⟩,
  ⟨[sVar 3, sVar 12], rx_truth_spans, 0, sVar 3⟩,
  ⟨[sVar 3, sVar 12], rx_surely_right, 0, sVar 3⟩,
  ⟨[sVar 3, sVar 12], rx_surely_wrong, 0, sVar 3⟩,
  ⟨[sVar 3, sVar 12], rx_trimmed, 0, sVar 3⟩,
  ⟨[sVar 3, sVar 12], rx_hull, 0, sVar 3⟩,
  ⟨[sVar 3, sVar 12, sVar 10], rx_pulled, 0, sVar 3⟩,
  ⟨[sVar 3, sVar 4, sVar 10], rx_weighed, 0, sVar 3⟩,
  ⟨[sVar 8, sVar 11], rx_have, 1, sVar 11⟩,
  ⟨[sVar 8, sVar 13], rx_agreed, 1, sVar 13⟩,
  ⟨[sVar 8, sVar 12], rx_truth_spans, 1, sVar 12⟩,
  ⟨[sVar 8, sVar 12], rx_surely_right, 1, sVar 12⟩,
  ⟨[sVar 8, sVar 12], rx_surely_wrong, 1, sVar 12⟩,
  ⟨[sVar 8, sVar 12], rx_trimmed, 1, sVar 12⟩,
  ⟨[sVar 8, sVar 12], rx_hull, 1, sVar 12⟩,
  ⟨[sVar 8, sVar 12, sVar 10], rx_pulled, 1, sVar 12⟩,
  ⟨[sVar 8, sC (.int 0), sVar 10], rx_pulled, 1, sVar 10⟩,
  ⟨[sVar 8, sVar 4, sVar 10], rx_weighed, 2, sVar 4⟩,
  ⟨[sVar 8, sVar 5, sVar 10], rx_weighed, 1, sVar 10⟩,
  ⟨[sVar 8, sVar 5, sC (.int 0)], rx_weighed, 1, sC (.int 0)⟩,
  ⟨[sVar 8, sVar 5, sC (.int 1981)], rx_weighed, 1, sC (.int 1981)⟩,
  ⟨[sTup [sTup [sC (.int 0), sC (.int 1)], sTup [sC (.int 5), sC (.int 6)]], sC (.int 0)], rx_hull, 3, sC (.int 1)⟩,
  ⟨[sTup [sTup [sC (.int 0), sC (.int 1)], sTup [sC (.int 5), sC (.int 6)], sTup [sC (.int 9), sC (.int 9)]], sC (.int 1)], rx_surely_wrong, 3, sC (.int 2)⟩]
def body__law_right : SS := sCons (sAsgT (gT [gN 8, gN 9]) (sCall fn__law_sources [sVar 0, sC (.int 7), sC (.int 15)])) (sCons (sAsg 1 (sNat nLen [sVar 8])) (sCons (sAsg 2 (sLst [sC (.non), sTup [], sNat nList [sVar 8], sTup [sTup [sC (.int 2), sC (.int 1)]], sTup [sTup [sC (.int 0), sC (.int 100000)]], sTup [sTup [sC (.int 0), sC (.bl true)]], sTup [sTup [sC (.int 0)]], sTup [sC (.int 0), sC (.int 1)], sNat nRep [sTup [sTup [sC (.int 0), sC (.int 1)]], sC (.int 21)]])) (sCons (sAsg 3 (sCall fn__law_of [sVar 0, sVar 2])) (sCons (sAsgT (gT [gN 10, gN 11]) (sTup [sCall fn__law_of [sVar 0, sLst [sC (.non), sNat nNeg [sC (.int 1)], sC (.bl true), sC (.str "1"), sTup [sC (.int 1)]]], sCall fn__law_of [sVar 0, sLst [sC (.non), sC (.int 199999), sNat nNeg [sC (.int 199999)], sC (.bl true), sC (.str "1")]]])) (sCons (sAsgT (gT [gN 12, gN 13]) (sTup [sCall fn__law_of [sVar 0, sLst [sC (.non), sVar 1, sNat nNeg [sC (.int 1)], sC (.bl true), sC (.str "1")]], sCall fn__law_of [sVar 0, sLst [sC (.non), sC (.int 0), sNat nAdd [sVar 1, sC (.int 1)], sC (.bl true), sC (.str "1")]]])) (sCons (sAsg 4 (sCall fn__law_of [sVar 0, sLst [sC (.non), sNat nRep [sTup [sC (.int 1)], sNat nAdd [sVar 1, sC (.int 1)]], sRepL (sLst [sC (.int 1)]) (sVar 1), sNat nRep [sTup [sC (.bl true)], sVar 1], sNat nRep [sTup [sC (.int 100)], sVar 1], sNat nRep [sTup [sNat nNeg [sC (.int 1)]], sVar 1]]])) (sCons (sAsg 5 (sNat nRep [sTup [sC (.int 1)], sVar 1])) (sCons (sLooks looksE 6) (sCons (sAsg 7 (sSlc (sVar 8) none (some (sC (.int 1))))) (sCons (sIfS (sOr (sNat nNeS [sCall fn_best_agreed [sVar 7], sTup [sC (.int 1), sVar 7]]) (sOr (sNat nNeS [sCall fn_truth_spans [sVar 7, sC (.int 0)], sTup [sC (.str "spans"), sVar 7]]) (sNat nNeS [sCall fn_hull [sVar 7, sC (.int 0)], sNat nIdx [sVar 7, sC (.int 0)]]))) (sCons (sRet (sC (.bl false))) (sNil)) (sNil)) (sCons (sIfS (sOr (sNat nNeS [sCall fn_trimmed [sVar 7, sC (.int 0)], sNat nIdx [sVar 7, sC (.int 0)]]) (sOr (sNat nNeS [sCall fn_surely_right [sVar 7, sC (.int 0)], sTup [sC (.int 0)]]) (sNat nNeS [sCall fn_surely_wrong [sVar 7, sC (.int 0)], sTup []]))) (sCons (sRet (sC (.bl false))) (sNil)) (sNil)) (sCons (sIfS (sOr (sNat nNeS [sCall fn_pulled [sVar 7, sC (.int 0), sC (.int 0)], sTup [sNat nNeg [sC (.int 99999)], sC (.int 99999)]]) (sNat nNeS [sCall fn_weighed [sVar 8, sNat nRep [sTup [sC (.int 0)], sVar 1], sC (.int 1)], sTup []])) (sCons (sRet (sC (.bl false))) (sNil)) (sNil)) (sCons (sRet (sNat nEqS [sCall fn_have [sVar 7, sC (.int 199998)], sTup []])) (sNil))))))))))))))
def fn__law_right : Fn := runDef 1 17 body__law_right
theorem sc__law_right : FnScope ["pot", "many", "nones", "none", "weights", "ones", "looks", "alone", "sources", "truth", "bad", "far", "wrong", "size", "call", "label", "value"] ["pot"] (defScope st__law_right) := ⟨rfl, rfl, rfl, by decide +kernel, rfl, by decide +kernel, by decide +kernel⟩
/-- the statements of the looks, and what stands behind them -/
def looksSt : List Stmt := ((defBody st__law_right).drop 8).take 27
def restSt : List Stmt := (defBody st__law_right).drop 35
theorem ok__law_right (T : Txt mg) (D__law_sources : Def P w K mg base 3 "_law_sources" ["pot", "most", "far"] fn__law_sources) (D__law_of : Def P w K mg base 2 "_law_of" ["pot", "some"] fn__law_of) (D_have : Def P w K mg base 5 "have" ["sources", "truth"] fn_have) (D_best_agreed : Def P w K mg base 5 "best_agreed" ["sources"] fn_best_agreed) (D_truth_spans : Def P w K mg base 6 "truth_spans" ["sources", "wrong"] fn_truth_spans) (D_hull : Def P w K mg base 7 "hull" ["sources", "wrong"] fn_hull) (D_trimmed : Def P w K mg base 6 "trimmed" ["sources", "wrong"] fn_trimmed) (D_surely_right : Def P w K mg base 7 "surely_right" ["sources", "wrong"] fn_surely_right) (D_surely_wrong : Def P w K mg base 7 "surely_wrong" ["sources", "wrong"] fn_surely_wrong) (D_pulled : Def P w K mg base 6 "pulled" ["sources", "wrong", "at"] fn_pulled) (D_weighed : Def P w K mg base 5 "weighed" ["sources", "weights", "enough"] fn_weighed) {f : Addr} {fd : FuncData} (F : L2.Fun K "_law_right" "_law_right" st__law_right f fd) (hm : mg "_law_right" = some (.ref f)) (SP : ∀ (cdv : Value) (A : Around) (outer : List Env) (s : Shared) (H : Hp), fd.code = cdv → Ok (bX P w K mg base ["pot", "many", "nones", "none", "weights", "ones", "looks", "alone", "sources", "truth", "bad", "far", "wrong", "size", "call", "label", "value"] "_law_right" st__law_right f cdv A outer s H) 11 → ∀ G, DSs (bX P w K mg base ["pot", "many", "nones", "none", "weights", "ones", "looks", "alone", "sources", "truth", "bad", "far", "wrong", "size", "call", "label", "value"] "_law_right" st__law_right f cdv A outer s H) (restSt) G → DSs (bX P w K mg base ["pot", "many", "nones", "none", "weights", "ones", "looks", "alone", "sources", "truth", "bad", "far", "wrong", "size", "call", "label", "value"] "_law_right" st__law_right f cdv A outer s H) (looksSt ++ restSt) (sCons (sLooks looksE 6) G)) : Def P w K mg base 12 "_law_right" ["pot"] fn__law_right :=
  @def_of2 P w K mg base "_law_right" st__law_right f fd ["pot", "many", "nones", "none", "weights", "ones", "looks", "alone", "sources", "truth", "bad", "far", "wrong", "size", "call", "label", "value"] ["pot"] 11 body__law_right F hm sc__law_right (fun _ _ _ _ _ _ us hl => match us, hl with | [_], _ => rfl) (fun _ _ _ _ _ _ us hl => match us, hl with | [_], _ => rfl) fun cdv A outer s H hcd ok => dss_cons (ds_asgT (d_call ok D__law_sources (by decide) (by rfl) (da_cons (d_var 0) (da_cons (d_int) (da_cons (d_int) (da_nil))))) (dg_tup ok.calm (dgs_cons (dg_name 8 ok.nd) (dgs_cons (dg_name 9 ok.nd) (dgs_nil))))) (dss_cons (ds_asg 1 ok.nd (d_callB cr_lenA n_len (by rfl) T.b_len bt_len (da_cons (d_var 8) (da_nil)))) (dss_cons (ds_asg 2 ok.nd (d_lst (da_cons (d_non) (da_cons (d_tup (da_nil)) (da_cons (d_callT call_list_of n_list (by rfl) T.b_list bt_list (da_cons (d_var 8) (da_nil))) (da_cons (d_tup (da_cons (d_tup (da_cons (d_int) (da_cons (d_int) (da_nil)))) (da_nil))) (da_cons (d_tup (da_cons (d_tup (da_cons (d_int) (da_cons (d_int) (da_nil)))) (da_nil))) (da_cons (d_tup (da_cons (d_tup (da_cons (d_int) (da_cons (d_bl) (da_nil)))) (da_nil))) (da_cons (d_tup (da_cons (d_tup (da_cons (d_int) (da_nil))) (da_nil))) (da_cons (d_tup (da_cons (d_int) (da_cons (d_int) (da_nil)))) (da_cons (d_op op_repX n_rep (d_tup (da_cons (d_tup (da_cons (d_int) (da_cons (d_int) (da_nil)))) (da_nil))) (d_int)) (da_nil)))))))))))) (dss_cons (ds_asg 3 ok.nd (d_call ok D__law_of (by decide) (by rfl) (da_cons (d_var 0) (da_cons (d_var 2) (da_nil))))) (dss_cons (ds_asgT (d_tup (da_cons (d_call ok D__law_of (by decide) (by rfl) (da_cons (d_var 0) (da_cons (d_lst (da_cons (d_non) (da_cons (d_un un_neg n_neg (d_int)) (da_cons (d_bl) (da_cons (d_str) (da_cons (d_tup (da_cons (d_int) (da_nil))) (da_nil))))))) (da_nil)))) (da_cons (d_call ok D__law_of (by decide) (by rfl) (da_cons (d_var 0) (da_cons (d_lst (da_cons (d_non) (da_cons (d_int) (da_cons (d_un un_neg n_neg (d_int)) (da_cons (d_bl) (da_cons (d_str) (da_nil))))))) (da_nil)))) (da_nil)))) (dg_tup ok.calm (dgs_cons (dg_name 10 ok.nd) (dgs_cons (dg_name 11 ok.nd) (dgs_nil))))) (dss_cons (ds_asgT (d_tup (da_cons (d_call ok D__law_of (by decide) (by rfl) (da_cons (d_var 0) (da_cons (d_lst (da_cons (d_non) (da_cons (d_var 1) (da_cons (d_un un_neg n_neg (d_int)) (da_cons (d_bl) (da_cons (d_str) (da_nil))))))) (da_nil)))) (da_cons (d_call ok D__law_of (by decide) (by rfl) (da_cons (d_var 0) (da_cons (d_lst (da_cons (d_non) (da_cons (d_int) (da_cons (d_op op_addA n_add (d_var 1) (d_int)) (da_cons (d_bl) (da_cons (d_str) (da_nil))))))) (da_nil)))) (da_nil)))) (dg_tup ok.calm (dgs_cons (dg_name 12 ok.nd) (dgs_cons (dg_name 13 ok.nd) (dgs_nil))))) (dss_cons (ds_asg 4 ok.nd (d_call ok D__law_of (by decide) (by rfl) (da_cons (d_var 0) (da_cons (d_lst (da_cons (d_non) (da_cons (d_op op_repX n_rep (d_tup (da_cons (d_int) (da_nil))) (d_op op_addA n_add (d_var 1) (d_int))) (da_cons (d_repL (d_lst (da_cons (d_int) (da_nil))) (d_var 1)) (da_cons (d_op op_repX n_rep (d_tup (da_cons (d_bl) (da_nil))) (d_var 1)) (da_cons (d_op op_repX n_rep (d_tup (da_cons (d_int) (da_nil))) (d_var 1)) (da_cons (d_op op_repX n_rep (d_tup (da_cons (d_un un_neg n_neg (d_int)) (da_nil))) (d_var 1)) (da_nil)))))))) (da_nil))))) (dss_cons (ds_asg 5 ok.nd (d_op op_repX n_rep (d_tup (da_cons (d_int) (da_nil))) (d_var 1))) (SP cdv A outer s H hcd ok _ (dss_cons (ds_asg 7 ok.nd (d_slc (d_var 8) (trivial) (d_int))) (dss_cons (ds_if ((db_or (d_cmp (op_neS ok.un) n_neS (d_call ok D_best_agreed (by decide) (by rfl) (da_cons (d_var 7) (da_nil))) (d_tup (da_cons (d_int) (da_cons (d_var 7) (da_nil))))) (db_or (d_cmp (op_neS ok.un) n_neS (d_call ok D_truth_spans (by decide) (by rfl) (da_cons (d_var 7) (da_cons (d_int) (da_nil)))) (d_tup (da_cons (d_str) (da_cons (d_var 7) (da_nil))))) (db_or1 (d_cmp (op_neS ok.un) n_neS (d_call ok D_hull (by decide) (by rfl) (da_cons (d_var 7) (da_cons (d_int) (da_nil)))) (d_ix (d_var 7) (d_int)))))).de) (dss_cons (ds_ret (d_bl)) (dss_nil)) (dss_nil)) (dss_cons (ds_if ((db_or (d_cmp (op_neS ok.un) n_neS (d_call ok D_trimmed (by decide) (by rfl) (da_cons (d_var 7) (da_cons (d_int) (da_nil)))) (d_ix (d_var 7) (d_int))) (db_or (d_cmp (op_neS ok.un) n_neS (d_call ok D_surely_right (by decide) (by rfl) (da_cons (d_var 7) (da_cons (d_int) (da_nil)))) (d_tup (da_cons (d_int) (da_nil)))) (db_or1 (d_cmp (op_neS ok.un) n_neS (d_call ok D_surely_wrong (by decide) (by rfl) (da_cons (d_var 7) (da_cons (d_int) (da_nil)))) (d_tup (da_nil)))))).de) (dss_cons (ds_ret (d_bl)) (dss_nil)) (dss_nil)) (dss_cons (ds_if ((db_or (d_cmp (op_neS ok.un) n_neS (d_call ok D_pulled (by decide) (by rfl) (da_cons (d_var 7) (da_cons (d_int) (da_cons (d_int) (da_nil))))) (d_tup (da_cons (d_un un_neg n_neg (d_int)) (da_cons (d_int) (da_nil))))) (db_or1 (d_cmp (op_neS ok.un) n_neS (d_call ok D_weighed (by decide) (by rfl) (da_cons (d_var 8) (da_cons (d_op op_repX n_rep (d_tup (da_cons (d_int) (da_nil))) (d_var 1)) (da_cons (d_int) (da_nil))))) (d_tup (da_nil))))).de) (dss_cons (ds_ret (d_bl)) (dss_nil)) (dss_nil)) (dss_cons (ds_ret (d_cmp (op_eqS ok.un) n_eqS (d_call ok D_have (by decide) (by rfl) (da_cons (d_var 7) (da_cons (d_int) (da_nil)))) (d_tup (da_nil)))) (dss_nil))))))))))))))
abbrev st_law : Stmt := top 47
def body_law : SS := sCons (sFor (sSeq (sCall fn__law_cells [sVar 0, sC (.int 2)])) (gN 1) (sCons (sAsg 2 (sCall fn__law_pot [sVar 0, sVar 1])) (sCons (sIfS (sNot (sNat nAll [sComp (sRng1 (sC (.int 5))) (gN 3) (sC (.bl true)) (sCall fn__law_right [sVar 2]) [3]])) (sCons (sRet (sC (.bl false))) (sNil)) (sNil)) (sNil)))) (sCons (sRet (sC (.bl true))) (sNil))
def fn_law : Fn := runDef 1 4 body_law
theorem sc_law : FnScope ["script", "place", "pot", "lap"] ["script"] (defScope st_law) := ⟨rfl, rfl, rfl, by decide +kernel, rfl, by decide +kernel, by decide +kernel⟩
theorem ok_law (T : Txt mg) (D__law_cells : Def P w K mg base 1 "_law_cells" ["script", "most"] fn__law_cells) (D__law_pot : Def P w K mg base 1 "_law_pot" ["script", "place"] fn__law_pot) (D__law_right : Def P w K mg base 12 "_law_right" ["pot"] fn__law_right) {f : Addr} {fd : FuncData} (F : L2.Fun K "law" "law" st_law f fd) : FnG P w K mg base 13 f fd ["script"] (spI K fn_law) :=
  @fnG_of P w K mg base "law" "law" st_law f fd ["script", "place", "pot", "lap"] ["script"] 12 body_law F sc_law fun cdv A outer s H ok => dss_cons (ds_for ok.po ok.calm (di_seq (d_call ok D__law_cells (by decide) (by rfl) (da_cons (d_var 0) (da_cons (d_int) (da_nil))))) (dg_name 1 ok.nd) (dss_cons (ds_asg 2 ok.nd (d_call ok D__law_pot (by decide) (by rfl) (da_cons (d_var 0) (da_cons (d_var 1) (da_nil))))) (dss_cons (ds_if (d_not (d_callB (cr_all ok.calm) n_all (by rfl) T.b_all bt_all (da_cons (d_comp [("lap", 3)] ok.calm ok.nd (di_rng1 (by rfl) T.b_range (d_int)) (blkOk_by (by kernel_rfl)) (fun s H C cl fp => dg_name 3 ok.nd) (fun s H C cl fp => dt_nil) (fun s H C cl fp => inBlk (ok.blk s H _ _ fp) fun ok => d_call ok D__law_right (by decide) (by rfl) (da_cons (d_var 2) (da_nil))) (okN 3)) (da_nil)))) (dss_cons (ds_ret (d_bl)) (dss_nil)) (dss_nil)) (dss_nil)))) (dss_cons (ds_ret (d_bl)) (dss_nil))
end
end Sa

/-! The defs that hear an error and name it -/
namespace Xc
open PySem PySem.Spec PyProof.Rows L2 LamX Sa
/-- a(), a slot holds the lambda -/
theorem pe_look {Z : Cx} {W : WX} {k i : Nat} {a : Str} {p1 p2 : Pos} (tk : Takes Z W) (hr : Room k Z.A) (hgd : Z.A.guards = some []) (hN : Z.N[i]? = some a) (hv : Vis Z.env.scope a) (hd : (a == ("__debug__" : Str)) = false := by decide) (hcd : (a == ("__classdict__" : Str)) = false := by decide) :
    PE Z (.Call (.Name a p1) [] [] p2) (fun σ H Q => ∃ (f : Addr) (sp : Sl0), σ[i]? = some (some (.ref f)) ∧ LamP Z.prog Z.w Z.K Z.mg Z.base k f sp ∧ sp H Q (fun cls d H' => W cls d σ H')) := by
  refine ⟨fun pins s σ H Q I ⟨f, sp, h1, hp, h2⟩ => ?_⟩
  refine wpAny_Call_Name_kw (thn ((pe_var (pos := p1) hN hv hd hcd).run pins s σ H (fun v H1 => v = .ref f ∧ H1 = H) I ⟨.ref f, h1, rfl, rfl⟩) fun u s1 ⟨v, H1, I1, r1, ev, eH⟩ => ?_)
  subst ev
  subst eH
  obtain rfl : u = Value.ref f := r1
  obtain ⟨⟨cls, od, dat, sl⟩, fd, hF, hdat, hcls⟩ := hp.obj _ _ _ h2
  cases hdat
  cases hcls
  have atF := lamO_at I1.hok hF
  refine PySem.W.callWith_F0 ⟨_, _, _, _, atF⟩ ?_
  refine wpAny_call (codeAny_mono (hp.run Z.A Z.stack s1 H1 Q _ hr hgd I1.env0 h2) fun r s2 hq => ?_)
  cases r with
  | error er => exact tk er s2 (XE.of_call I1 (fun _ _ _ z => z) hq)
  | ok fl => cases fl with
    | ret u => exact I1.after hq
    | _ => exact False.elim hq
/-- what the hearing def makes of what it calls: an error of the class OE is kept -/
def TTh (K : Fg) (OE : Addr) (sp : Sl0) : Hp → VK → Prop := fun H Q => ∀ p, H p = none → ∀ (E' : XK) (Q' : VK),
  (∀ cls d H', PySem.W.exmOne K cls (.ref OE) = some true → (∀ a, H' a = none → ∀ t, upd H' a (ExV cls d a) t = none → Q (.ref t) (upd (upd H' a (ExV cls d a)) t (.tup [.ref a, .non]))) → E' cls d H') → sp (upd H p (.tup [.non, .non])) Q' E'
def spH (P : Program) (w : World) (K : Fg) (mg : Str → Option Value) (base : Heap) (k : Nat) (OE : Addr) : Sp := fun vs H Q _ => ∃ (f : Addr) (sp : Sl0), vs = [.ref f] ∧ LamP P w K mg base k f sp ∧ TTh K OE sp H Q
abbrev st__law_heard : Stmt := top 39
theorem sc_heard : FnScope ["look", "caught", "told", "error"] ["look"] (defScope st__law_heard) := ⟨rfl, rfl, rfl, by decide +kernel, rfl, by decide +kernel, by decide +kernel⟩
section
variable {P : Program} {w : World} {K : Fg} {mg : Str → Option Value} {base : Heap} {k : Nat} {OE g : Addr} {fdg : FuncData}
theorem fnX_heard (F : L2.Fun K "_law_heard" "_law_heard" st__law_heard g fdg) (hO : mg "OrderError" = some (.ref OE)) : FnX P w K mg base (k + 1) g fdg ["look"] (spH P w K mg base k OE) := by
  refine fnX_of (k := k) (N := ["look", "caught", "told", "error"]) F sc_heard (fun vs H Q E ⟨f, sp, e, _⟩ => by rw [e]; rfl) fun cdv A outer s H vs Q E ok tk hsp => ?_
  obtain ⟨f, sp, rfl, hp, h⟩ := hsp
  have nd : (["look", "caught", "told", "error"] : List Str).Nodup := by decide
  let Z : Cx := xX P w K mg base ["look", "caught", "told", "error"] "_law_heard" st__law_heard g cdv A outer s H E
  refine ⟨_, pss_cons (X := Z) (ps_asg (pe_tup (pa_cons pe_non (pa_cons pe_non pa_nil))) (pg_tup rfl (pgs_cons (pg_name (i := 1) nd rfl (.inl rfl)) (pgs_cons (pg_name (i := 2) nd rfl (.inl rfl)) pgs_nil))))
    (pss_cons (X := Z) (ps_try_keep (X := Z) (c := .ref OE) (i := 3) (j := 1) rfl rfl rfl nd rfl rfl rfl rfl ⟨rfl, by decide, .inl hO⟩ (by decide) (by decide) (by intro _; rfl) (fun W pn xe tk _ => pss_one (ps_set (i := 2) nd rfl (.inl rfl) (show PE (Z.tr pn xe) _ (fun σ H Q => ∃ (f : Addr) (sp : Sl0), σ[0]? = some (some (.ref f)) ∧ LamP P w K mg base k f sp ∧ sp H Q (fun cls d H' => W cls d σ H')) from pe_look (k := k) (i := 0) tk ok.room ok.gd rfl (.inl rfl)))))
      (pss_one (X := Z) (ps_ret (pe_tup (pa_cons (pv 1) (pa_cons (pv 2) pa_nil)))))), ?_⟩
  refine ⟨by decide, fun p hq => ⟨p, [.non, .non], rfl, Evl.st_of upd_same, rfl, .non, [.non], rfl, .non, [], rfl, rfl, ?_⟩⟩
  refine ⟨f, sp, rfl, hp, h p hq _ _ fun cls d H' hex hq => ⟨hex, fun a na => ?_⟩⟩
  exact ⟨_, rfl, _, rfl, (by show 2 ≤ sizeLine; rw [sizeLine_eq]; omega), fun t ht => hq a na t ht⟩
end
end Xc

namespace Xc
open PySem PySem.Spec PyProof.Rows L2 LamX Sa
/-- the four classes -/
structure Cls4 (K : Fg) (mg : Str → Option Value) (cs : Nat → Addr) (OE : Addr) : Prop where
  em : ∀ n, n < 4 → PySem.W.exmOne K (.ref (cs n)) (.ref OE) = some true
  ex : ∀ n, n < 4 → ExcC K (cs n)
  xf : ∀ n, n < 4 → XfC K (cs n)
  nv : ∀ n, n < 4 → PySem.W.findIn K (.ref (cs n)) "value" = some none
  kit : ∀ n m, n < 4 → m < 4 → PySem.W.kitOne K (.ref (cs n)) (.ref (cs m)) = some (decide (n = m))
  g0 : mg "BadSources" = some (.ref (cs 0))
  g1 : mg "BadNumber" = some (.ref (cs 1))
  g2 : mg "BadWeights" = some (.ref (cs 2))
  g3 : mg "MoreWrong" = some (.ref (cs 3))
def spN (P : Program) (w : World) (K : Fg) (mg : Str → Option Value) (base : Heap) (k : Nat) (cs : Nat → Addr) : Sp := fun vs H Q _ => ∃ (f : Addr) (sp : Sl0) (n : Nat) (d : Sa.D), vs = [.ref f] ∧ n < 4 ∧ LamP P w K mg base k f sp ∧ Tabs (tbls K) H ∧
  (∀ H1 Q' E', Gw H H1 → Tabs (tbls K) H1 → Kp K cs E' H1 n d → sp H1 Q' E') ∧ ∀ v H' Hb', Gw H H' → Tabs (tbls K) H' → NT Hb' → Evl.Ex Hb' H' → Rep K Hb' (.tup [.lst [.str (lab n)], d]) v → Q v H'
abbrev st__law_named : Stmt := top 45
theorem sc_named : FnScope ["call", "caught", "marks", "word", "is_so"] ["call"] (defScope st__law_named) := ⟨rfl, rfl, rfl, by decide +kernel, rfl, by decide +kernel, by decide +kernel⟩
theorem Gw.put {H H1 : Hp} {l : Addr} {o : HO} (g : Gw H H1) (h : H l = none) : Gw H (upd H1 l o) := ⟨fun a u e n => by rw [upd_ne (ne_of_none e h)]; exact g.ex a u e n, fun a z => by
  by_cases q : a = l
  · rw [q]; exact h
  · rw [upd_ne q] at z; exact g.al a z⟩
/-- ("..", isinstance(caught, ..)) -/
theorem mark1 {K : Fg} {σ : L2.St} {H : Hp} {Q : VK} {a C Cm : Addr} {fs : List (Str × V)} {b : Bool} {s : Str} (x1 : σ[1]? = some (some (.ref a))) (err : ErrAt H a C fs) (hx : ExcC K C) (hk : PySem.W.kitOne K (.ref C) (.ref Cm) = some b)
    (q : ∀ p, H p = none → Q (.ref p) (upd H p (.tup [.str s, .bl b]))) : tTup (tCons (tC (.str s)) (tCons (tCB (rIsV K) (tCons (tVar 1) (tCons (tC (.ref Cm)) tNil))) tNil)) σ H Q :=
  ⟨.ref a, x1, a, C, fs, .ref Cm, .ref Cm, b, rfl, err, hx, fun u h => h, hk, (by show 2 ≤ sizeLine; rw [sizeLine_eq]; omega), q⟩
theorem ErrAt.put {H : Hp} {a C l : Addr} {o : HO} {fs : List (Str × V)} (h : ErrAt H a C fs) (n : H l = none) : ErrAt (upd H l o) a C fs := h.gw (.new n)
def sWords : SE := sComp (sSeq (sVar 2)) (gT [gN 3, gN 4]) (sVar 4) (sVar 3) [3, 4]
def marksD (n : Nat) : List Sa.D := [.tup [.str "sources", .bl (decide (n = 0))], .tup [.str "number", .bl (decide (n = 1))], .tup [.str "weights", .bl (decide (n = 2))], .tup [.str "more", .bl (decide (n = 3))]]
theorem words_ok {n : Nat} (hn : n < 4) : sWords [.non, .non, .val (.lst (marksD n)) false, .non, .non] = .ok (.new (.lst [.str (lab n)])) [.non, .non, .val (.lst (marksD n)) false, .non, .non] := by
  match n, hn with
  | 0, _ => rfl
  | 1, _ => rfl
  | 2, _ => rfl
  | 3, _ => rfl
section
variable {P : Program} {w : World} {K : Fg} {mg : Str → Option Value} {base : Heap} {cs : Nat → Addr} {k : Nat} {OE g g2 : Addr} {fdg fd2 : FuncData}
theorem fnX_named (Tx : Txt mg) (F : L2.Fun K "_law_named" "_law_named" st__law_named g2 fd2) (Fg : L2.Fun K "_law_heard" "_law_heard" st__law_heard g fdg) (hg : mg "_law_heard" = some (.ref g)) (hO : mg "OrderError" = some (.ref OE)) (C4 : Cls4 K mg cs OE) :
    FnX P w K mg base (k + 2) g2 fd2 ["call"] (spN P w K mg base k cs) := by
  refine fnX_of (k := k + 1) (N := ["call", "caught", "marks", "word", "is_so"]) F sc_named (fun vs H Q E ⟨f, sp, n, d, e, _⟩ => by rw [e]; rfl) fun cdv A outer s H vs Q E ok tk hsp => ?_
  obtain ⟨f, sp, n, d, rfl, hn, hp, tb, hrun, hQ⟩ := hsp
  let Z : Cx := xX P w K mg base ["call", "caught", "marks", "word", "is_so"] "_law_named" st__law_named g2 cdv A outer s H E
  refine ⟨_, pss_cons (X := Z) (ps_set (i := 1) ok.nd rfl (.inl rfl) (pe_ix ix_tup (pe_callX (fnX_heard (k := k) Fg hO) ok.room ok.gd (by rfl) hg Fg.kp (Fg.binds (fun _ _ _ _ _ _ us hl => match us, hl with | [_], _ => rfl)) tk (pa_cons (pv 0) pa_nil)) pe_int (by exact fun _ _ => rfl)))
    (pss_cons (ps_if (pt_cmpR op_isN (pv 1) pe_non (by rfl)) (pss_never) pss_nil)
    (pss_cons (X := Z) (ps_set (i := 2) ok.nd rfl (.inl rfl) (pe_lst (pa_cons (pe_tup (pa_cons pe_str (pa_cons (pe_callB call_isV (by rfl) Tx.b_isinstance (by decide +kernel) (pa_cons (pv 1) (pa_cons (pe_glob (v := .ref (cs 0)) (by rfl) C4.g0 rfl) pa_nil))) pa_nil)))
        (pa_cons (pe_tup (pa_cons pe_str (pa_cons (pe_callB call_isV (by rfl) Tx.b_isinstance (by decide +kernel) (pa_cons (pv 1) (pa_cons (pe_glob (v := .ref (cs 1)) (by rfl) C4.g1 rfl) pa_nil))) pa_nil))) pa_nil))))
    (pss_cons (X := Z) (ps_expr (pe_bm PySem.F.plainAttrs_list PySem.F.slot_list_extend PySem.F.type_list_extend mt_extendX (pv 2) (pa_cons (pe_lst (pa_cons (pe_tup (pa_cons pe_str (pa_cons (pe_callB call_isV (by rfl) Tx.b_isinstance (by decide +kernel) (pa_cons (pv 1) (pa_cons (pe_glob (v := .ref (cs 2)) (by rfl) C4.g2 rfl) pa_nil))) pa_nil)))
        (pa_cons (pe_tup (pa_cons pe_str (pa_cons (pe_callB call_isV (by rfl) Tx.b_isinstance (by decide +kernel) (pa_cons (pv 1) (pa_cons (pe_glob (v := .ref (cs 3)) (by rfl) C4.g3 rfl) pa_nil))) pa_nil))) pa_nil))) pa_nil)))
    (pss_one (X := Z) (ps_ret (pe_tup (pa_cons (show DE Z _ sWords from d_comp [("word", 3), ("is_so", 4)] ok.calm ok.nd (di_seq (d_var 2)) (blkOk_by (by kernel_rfl)) (fun s H C cl fp => dg_tup ok.calm (dgs_cons (dg_name 3 ok.nd) (dgs_cons (dg_name 4 ok.nd) dgs_nil))) (fun s H C cl fp => dt_one (d_var 4)) (fun s H C cl fp => d_var 3) (okT (oksC (okN 3) (oksC (okN 4) oksN)))).pe
        (pa_cons (pe_val (C0 := cs n) (fun C' e => by subst e; exact ⟨C4.xf n hn, C4.nv n hn⟩) (pv 1)) pa_nil)))))))), ?_⟩
  refine ⟨.ref f, rfl, f, sp, rfl, hp, fun p hp0 E' Q' hE' => hrun _ Q' E' (.new hp0) (tabs_upd tb (.inl hp0)) fun v dx H1 Hb1 g1 t1 nt1 ex1 rep hdx => hE' _ _ H1 (C4.em n hn) fun a na t nt => ?_⟩
  have nta : t ≠ a := fun z => by rw [z, upd_same] at nt; cases nt
  have dxa : dx ≠ a := ne_of_none hdx na
  have dxt : dx ≠ t := fun z => by rw [z] at hdx dxa; rw [upd_ne dxa, hdx] at nt; cases nt
  obtain ⟨H2, eH2⟩ : ∃ H2, H2 = upd (upd H1 a (ExV (.ref (cs n)) (some dx) a)) t (.tup [.ref a, .non]) := ⟨_, rfl⟩
  rw [← eH2]
  have g2 : Gw H H2 := by rw [eH2]; exact ((((Gw.new hp0).trans g1).trans (.new na)).trans (.new nt))
  have gv : Gw H1 H2 := by rw [eH2]; exact (Gw.new na).trans (.new nt)
  have t2 : Tabs (tbls K) H2 := by rw [eH2]; exact tabs_upd (tabs_upd t1 (.inl na)) (.inl nt)
  have err : ErrAt H2 a (cs n) [("value", v)] := ⟨dx, by rw [eH2, upd_ne (Ne.symm nta), upd_same], by rw [eH2, upd_ne dxt, upd_ne dxa]; exact hdx⟩
  have rep2 : Rep K H2 d v := Rep.mono (fun b o h => gv.ex b o (ex1 b o h) fun ps z => nt1 b ps (by rw [h, z])) d v rep
  have hix : Evl.Ex (fun _ => none) H2 := fun _ _ z => by cases z
  refine ⟨t, [.ref a, .non], 0, .ref a, rfl, rfl, Evl.st_of (by rw [eH2]; exact upd_same), rfl, ?_⟩
  refine ⟨.ref a, rfl, rfl, false, rfl, iteF ?_⟩
  have exn := C4.ex n hn
  have kt := fun m hm => C4.kit n m hn hm
  refine ⟨.ref a, rfl, a, cs n, _, .ref (cs 0), .ref (cs 0), decide (n = 0), rfl, err, exn, fun u h => h, kt 0 (by decide), (by show 2 ≤ sizeLine; rw [sizeLine_eq]; omega), fun p1 h1 => ?_⟩
  refine ⟨.ref a, rfl, a, cs n, _, .ref (cs 1), .ref (cs 1), decide (n = 1), rfl, err.put h1, exn, fun u h => h, kt 1 (by decide), (by show 2 ≤ sizeLine; rw [sizeLine_eq]; omega), fun p2 h2 => ⟨(by show 2 ≤ sizeLine; rw [sizeLine_eq]; omega), fun l hl => ?_⟩⟩
  obtain ⟨H3, eH3⟩ : ∃ H3, H3 = upd (upd (upd H2 p1 (.tup [.str "sources", .bl (decide (n = 0))])) p2 (.tup [.str "number", .bl (decide (n = 1))])) l (.lst [.ref p1, .ref p2]) := ⟨_, rfl⟩
  have g3 : Gw H2 H3 := by rw [eH3]; exact ((Gw.new h1).trans (.new h2)).trans (.new hl)
  have t3 : Tabs (tbls K) H3 := by rw [eH3]; exact tabs_upd (tabs_upd (tabs_upd t2 (.inl h1)) (.inl h2)) (.inl hl)
  have p12 : p2 ≠ p1 := fun z => by rw [z, upd_same] at h2; cases h2
  have l2n : l ≠ p2 := fun z => by rw [z, upd_same] at hl; cases hl
  have l1n : l ≠ p1 := fun z => by rw [z, upd_ne (Ne.symm p12), upd_same] at hl; cases hl
  have al : H3 l = some (.lst [.ref p1, .ref p2]) := by rw [eH3]; exact upd_same
  have a1 : H3 p1 = some (.tup [.str "sources", .bl (decide (n = 0))]) := by rw [eH3, upd_ne (Ne.symm l1n), upd_ne (Ne.symm p12), upd_same]
  have a2 : H3 p2 = some (.tup [.str "number", .bl (decide (n = 1))]) := by rw [eH3, upd_ne (Ne.symm l2n), upd_same]
  have fl : H2 l = none := by
    have z := hl
    rw [upd_ne l2n, upd_ne l1n] at z
    exact z
  show tSeq _ _ _ _ _
  rw [← eH3]
  have err3 := err.gw g3
  refine ⟨.ref l, rfl, .inl ⟨rfl, _, Evl.sq_of al⟩, ?_⟩
  refine ⟨.ref a, rfl, a, cs n, _, .ref (cs 2), .ref (cs 2), decide (n = 2), rfl, err3, exn, fun u h => h, kt 2 (by decide), (by show 2 ≤ sizeLine; rw [sizeLine_eq]; omega), fun p3 h3 => ?_⟩
  refine ⟨.ref a, rfl, a, cs n, _, .ref (cs 3), .ref (cs 3), decide (n = 3), rfl, err3.put h3, exn, fun u h => h, kt 3 (by decide), (by show 2 ≤ sizeLine; rw [sizeLine_eq]; omega), fun p4 h4 => ⟨(by show 2 ≤ sizeLine; rw [sizeLine_eq]; omega), fun l2 hl2 => ?_⟩⟩
  obtain ⟨H4, eH4⟩ : ∃ H4, H4 = upd (upd (upd H3 p3 (.tup [.str "weights", .bl (decide (n = 2))])) p4 (.tup [.str "more", .bl (decide (n = 3))])) l2 (.lst [.ref p3, .ref p4]) := ⟨_, rfl⟩
  have g4 : Gw H3 H4 := by rw [eH4]; exact ((Gw.new h3).trans (.new h4)).trans (.new hl2)
  have t4 : Tabs (tbls K) H4 := by rw [eH4]; exact tabs_upd (tabs_upd (tabs_upd t3 (.inl h3)) (.inl h4)) (.inl hl2)
  have p34 : p4 ≠ p3 := fun z => by rw [z, upd_same] at h4; cases h4
  have l4n : l2 ≠ p4 := fun z => by rw [z, upd_same] at hl2; cases hl2
  have l3n : l2 ≠ p3 := fun z => by rw [z, upd_ne (Ne.symm p34), upd_same] at hl2; cases hl2
  have bl : H4 l2 = some (.lst [.ref p3, .ref p4]) := by rw [eH4]; exact upd_same
  have b3 : H4 p3 = some (.tup [.str "weights", .bl (decide (n = 2))]) := by rw [eH4, upd_ne (Ne.symm l3n), upd_ne (Ne.symm p34), upd_same]
  have b4 : H4 p4 = some (.tup [.str "more", .bl (decide (n = 3))]) := by rw [eH4, upd_ne (Ne.symm l4n), upd_same]
  have al4 : H4 l = some (.lst [.ref p1, .ref p2]) := g4.ex _ _ al (fun ps z => by cases z)
  rw [← eH4]
  refine ⟨l, l2, _, _, rfl, rfl, al4, Evl.sq_of bl, by show 4 ≤ sizeLine; rw [sizeLine_eq]; omega, ?_⟩
  obtain ⟨H5, eH5⟩ : ∃ H5, H5 = upd H4 l (.lst ([.ref p1, .ref p2] ++ [.ref p3, .ref p4])) := ⟨_, rfl⟩
  have fl0 : H l = none := g2.al l fl
  have g5 : Gw H H5 := by rw [eH5]; exact ((g2.trans g3).trans g4).put fl0
  have g25 : Gw H2 H5 := by rw [eH5]; exact (g3.trans g4).put fl
  have t5 : Tabs (tbls K) H5 := by rw [eH5]; exact tabs_upd t4 (.inr ⟨_, al4⟩)
  have at5 : ∀ {b o}, H4 b = some o → b ≠ l → H5 b = some o := fun e z => by rw [eH5, upd_ne z]; exact e
  have nt' : ∀ {p : Addr} {xs : List V}, H4 p = some (.tup xs) → p ≠ l := fun e z => by rw [z, al4] at e; cases e
  have c1 := at5 (g4.ex _ _ a1 (fun ps z => by cases z)) (nt' (g4.ex _ _ a1 (fun ps z => by cases z)))
  have c2 := at5 (g4.ex _ _ a2 (fun ps z => by cases z)) (nt' (g4.ex _ _ a2 (fun ps z => by cases z)))
  have c3 := at5 b3 (nt' b3)
  have c4 := at5 b4 (nt' b4)
  have c5 : H5 l = some (.lst [.ref p1, .ref p2, .ref p3, .ref p4]) := by rw [eH5]; exact upd_same
  rw [← eH5]
  have pair : ∀ {p : Addr} {s : Str} {b : Bool}, H5 p = some (.tup [.str s, .bl b]) → Rep K H5 (.tup [.str s, .bl b]) (.ref p) := fun {p s b} e => ⟨p, _, rfl, Evl.st_of e, RepL.cons (show Rep K H5 (.str s) (.str s) from rfl) (RepL.cons (show Rep K H5 (.bl b) (.bl b) from rfl) RepL.nil)⟩
  have repM : Rep K H5 (.lst (marksD n)) (.ref l) := ⟨l, _, rfl, Evl.sq_of c5, RepL.cons (pair c1) (RepL.cons (pair c2) (RepL.cons (pair c3) (RepL.cons (pair c4) RepL.nil)))⟩
  obtain ⟨σ5, eσ⟩ : ∃ σ5 : L2.St, σ5 = [some (.ref f), some (.ref a), some (.ref l), none, none] := ⟨_, rfl⟩
  have rel5 : Rel K [.non, .non, .val (.lst (marksD n)) false, .non, .non] σ5 H5 (Sa.cl H5) := by
    refine ⟨cl_ex (Evl.Ex.refl _), by rw [eσ]; rfl, fun i d' p h => ?_, fun i o p h => ?_, fun i j o p o' p' l h => ?_, cl_nt, t5⟩
    · match i, h with
      | 2, h => cases h; exact ⟨.ref l, by rw [eσ]; rfl, Rep.cl _ _ repM⟩
      | 0, h => cases h
      | 1, h => cases h
      | 3, h => cases h
      | 4, h => cases h
      | i + 5, h => cases h
    · match i, h with
      | 0, h => cases h
      | 1, h => cases h
      | 2, h => cases h
      | 3, h => cases h
      | 4, h => cases h
      | i + 5, h => cases h
    · match i, h with
      | 0, h => cases h
      | 1, h => cases h
      | 2, h => cases h
      | 3, h => cases h
      | 4, h => cases h
      | i + 5, h => cases h
  have go : tE K sWords σ5 H5 (fun x H6 => ∃ l3 xs, x = .ref l3 ∧ H6 l3 = some (.lst xs) ∧ RepL K H6 [.str (lab n)] xs ∧ Gw H5 H6 ∧ Tabs (tbls K) H6) := by
    refine ⟨_, _, rel5, ?_⟩
    rw [words_ok hn]
    intro v6 H6 Hb6 s6 k6 r6 f6
    obtain ⟨l3, e6, ⟨xs, h6, hr⟩, _⟩ := r6
    exact ⟨l3, xs, e6, h6, RepL.mono s6.rel.ex _ _ hr, step_gw s6 (noOwn_own (by rfl)), s6.rel.tb⟩
  have go2 := tE_imp go fun x H6 (h : ∃ l3 xs, x = .ref l3 ∧ H6 l3 = some (.lst xs) ∧ RepL K H6 [.str (lab n)] xs ∧ Gw H5 H6 ∧ Tabs (tbls K) H6) => (show (tCons (fun σ H Q => tVar 1 σ H fun x H1 => ∃ (a : Addr) (fs : List (Str × V)) (v : V), x = V.ref a ∧ ErrAt H1 a (cs n) fs ∧ fs.lookup ("value" : Str) = some v ∧ Q v H1) tNil) σ5 H6 (fun xs H7 => (x :: xs).length ≤ sizeLine ∧ ∀ p, H7 p = none → Q (.ref p) (upd H7 p (.tup (x :: xs)))) from by
    obtain ⟨l3, xs, rfl, h6, hr, g6, t6⟩ := h
    refine ⟨.ref a, by rw [eσ]; rfl, a, _, v, rfl, err.gw (g25.trans g6), rfl, by show 2 ≤ sizeLine; rw [sizeLine_eq]; omega, fun pf hpf => ?_⟩
    have gf : Gw H6 (upd H6 pf (.tup [.ref l3, v])) := .new hpf
    have xf : Evl.Ex H6 (upd H6 pf (.tup [.ref l3, v])) := .new hpf
    refine hQ (.ref pf) _ (Sa.cl (upd H6 pf (.tup [.ref l3, v]))) ((g5.trans g6).trans gf) (tabs_upd t6 (.inl hpf)) cl_nt (cl_ex (Evl.Ex.refl _)) (Rep.cl _ _ ?_)
    refine ⟨pf, _, rfl, Evl.st_of upd_same, RepL.cons ⟨l3, xs, rfl, Evl.sq_of (xf _ _ h6), RepL.mono xf _ _ hr⟩ (RepL.cons (Rep.mono xf _ _ ?_) RepL.nil)⟩
    refine Rep.mono (fun b o h => ?_) _ _ (rep : Rep K Hb1 d v)
    exact (gv.trans (g25.trans g6)).ex b o (ex1 b o h) fun ps z => nt1 b ps (by rw [h, z]))
  rw [eσ] at go2
  exact go2
end
end Xc

/-! The looks: a list of lambdas, each called in a comprehension -/
namespace Xc
open PySem PySem.Spec PyProof.Rows L2 LamX Sa
/-- the slots stay, the heap's known things stay -/
theorem rel_gw {K : Fg} {ρ : Rho} {σ : L2.St} {H H1 Hb : Hp} (rel : Rel K ρ σ H Hb) (g : Gw H H1) (tb : Tabs (tbls K) H1) : Rel K ρ σ H1 Hb := by
  refine ⟨fun a o h => g.ex a o (rel.ex a o h) fun ps z => rel.nt a ps (by rw [h, z]), rel.len, rel.val, fun i o p h => ?_, rel.sep, rel.nt, tb⟩
  obtain ⟨l, a, b, c⟩ := rel.own i o p h
  refine ⟨l, a, b.mono ?_ (Evl.Ex.refl _), c⟩
  cases q : H l with
  | none => exact absurd q b.some
  | some u => exact g.ex l u q (b.ntb q)
theorem step_gw2 {K : Fg} {ρ0 ρ : Rho} {σ0 σ : L2.St} {H0 H H1 Hb0 Hb : Hp} (s : Step K ρ0 σ0 H0 Hb0 ρ σ H Hb) (g : Gw H H1) (tb : Tabs (tbls K) H1) : Step K ρ0 σ0 H0 Hb0 ρ σ H1 Hb :=
  ⟨rel_gw s.rel g tb, s.ext, fun a o h n m => g.ex a o (s.kp a o h n m) m, s.nb, s.ow, fun a z => s.al a (g.al a z)⟩
theorem rel_non {K : Fg} {ρ : Rho} {σ : L2.St} {H Hb : Hp} {i : Nat} {v : Option V} (rel : Rel K ρ σ H Hb) (h : ρ[i]? = some .non) : Rel K ρ (σ.set i v) H Hb := by
  have ne : ∀ {j : Nat} {s : Sl}, ρ[j]? = some s → s ≠ .non → (σ.set i v)[j]? = σ[j]? := fun {j s} e n => List.getElem?_set_ne fun z => by
    subst z
    rw [h] at e
    exact n (Option.some.inj e).symm
  refine ⟨rel.ex, by rw [List.length_set]; exact rel.len, fun j d p e => ?_, fun j o p e => ?_, fun j k o p o' p' l a b c d => ?_, rel.nt, rel.tb⟩
  · rw [ne e (by simp)]; exact rel.val j d p e
  · rw [ne e (by simp)]; exact rel.own j o p e
  · rw [ne a (by simp)] at c
    rw [ne b (by simp)] at d
    exact rel.sep j k o p o' p' l a b c d
theorem step_non {K : Fg} {ρ0 ρ : Rho} {σ0 σ : L2.St} {H0 H Hb0 Hb : Hp} {i : Nat} {v : Option V} (s : Step K ρ0 σ0 H0 Hb0 ρ σ H Hb) (h : ρ[i]? = some .non) : Step K ρ0 σ0 H0 Hb0 ρ (σ.set i v) H Hb :=
  ⟨rel_non s.rel h, s.ext, s.kp, s.nb, fun p a ⟨j, o, e1, e2⟩ => by
    have q : (σ.set i v)[j]? = σ[j]? := List.getElem?_set_ne fun z => by
      subst z
      rw [h] at e1
      cases e1
    rw [q] at e2
    exact s.ow p a ⟨j, o, e1, e2⟩, s.al⟩
theorem pin_non {ρ : Rho} {σ : L2.St} {i : Nat} {v : Option V} (h : ρ[i]? = some .non) : Pin ρ σ ρ (σ.set i v) := by
  have ne : ∀ {j : Nat} {s : Sl}, ρ[j]? = some s → s ≠ .non → (σ.set i v)[j]? = σ[j]? := fun {j s} e n => List.getElem?_set_ne fun z => by
    subst z
    rw [h] at e
    exact n (Option.some.inj e).symm
  refine ⟨rfl, fun j d e => ⟨e, ne e (by simp)⟩, fun j o e => ⟨.inl ⟨o, e⟩, ne e (by simp)⟩⟩
theorem dropO_get {ρ : Rho} {i : Nat} : (dropO ρ)[i]? = (ρ[i]?).map fun s => match s with
  | .own _ _ => .non
  | s => s := List.getElem?_map
theorem rel_drop {K : Fg} {ρ : Rho} {σ : L2.St} {H Hb : Hp} (rel : Rel K ρ σ H Hb) : Rel K (dropO ρ) σ H Hb := by
  have key : ∀ {i : Nat} {s : Sl}, (dropO ρ)[i]? = some s → (∀ o p, s ≠ .own o p) ∧ ((∃ d p, s = .val d p) → ρ[i]? = some s) := fun {i s} h => by
    rw [dropO_get] at h
    cases q : ρ[i]? with
    | none => rw [q] at h; cases h
    | some u =>
      rw [q] at h
      cases u with
      | own o p => cases h; exact ⟨fun _ _ z => (by cases z), fun ⟨_, _, z⟩ => by cases z⟩
      | val d p => cases h; exact ⟨fun _ _ z => (by cases z), fun _ => rfl⟩
      | non => cases h; exact ⟨fun _ _ z => (by cases z), fun _ => rfl⟩
  refine ⟨rel.ex, by unfold dropO; rw [List.length_map]; exact rel.len, fun i d p h => rel.val i d p ((key h).2 ⟨d, p, rfl⟩), fun i o p h => absurd rfl ((key h).1 o p), fun i j o p o' p' l h => absurd rfl ((key h).1 o p), rel.nt, rel.tb⟩
theorem noOwn_drop (ρ : Rho) : noOwn (dropO ρ) = true := List.all_eq_true.mpr fun s hs => by
  obtain ⟨u, _, rfl⟩ := List.mem_map.mp hs
  cases u <;> rfl
/-! ### one look -/
def tBody (K : Fg) (cs : Nat → Addr) (e : LE) (E : XK) : TE := fun σ H _ => ∃ ρ Hb n d, Rel K ρ σ H Hb ∧ noOwn ρ = true ∧ rCall e.fs e.rx ρ = some (n, d) ∧ Kp K cs E H n d
structure BodyOk (X : Cx) (cs : Nat → Addr) (e : LE) (pa : Arguments) (bd : Expr) (sc : Scope) : Prop where
  L : LamS X.env.scope sc
  bnd : ∀ (q : Str) (clo : List (Str × Addr)) (pm cv ctv : Value), bindArgs (PySem.W.kla_fn "<lambda>" q pa bd sc clo pm cv ctv) ⟨[], []⟩ = pure []
  run : ∀ (A : Around) (outer : List Env) (s : Shared) (H : Hp) (E : XK) (f cN : Addr), A.guards = some [] → Room 8 (A.deeper (lamEnv X sc s.heap.objs.size f cN)) → PE (lamCx X A outer s H E sc f cN) bd (tBody X.K cs e E)
def EntAt (X : Cx) (cs : Nat → Addr) (H Hb : Hp) (ρL : Rho) (t : V) (e : LE) : Prop := ∃ (tA f cN : Addr) (pm ctv : Value) (pa : Arguments) (bd : Expr) (sc : Scope) (v : V) (d' : Sa.D), t = .ref tA ∧ H tA = some (.tup [.ref f, .str (lab e.n), v]) ∧ H f = some (LamO f (lamObj X pa bd sc pm cN ctv)) ∧
  H cN = some (CodeO cN (X.env.qual ++ "<lambda>")) ∧ Rep X.K Hb d' v ∧ (∃ ρ', e.val ρL = .ok (.val d') ρ') ∧ BodyOk X cs e pa bd sc
theorem EntAt.keep {X : Cx} {cs : Nat → Addr} {H H1 Hb : Hp} {ρL : Rho} {t : V} {e : LE} (h : EntAt X cs H Hb ρL t e) (k : ∀ a o, H a = some o → (∀ ps, o ≠ .tbl ps) → (∀ xs, o ≠ .lst xs) → H1 a = some o) : EntAt X cs H1 Hb ρL t e := by
  obtain ⟨tA, f, cN, pm, ctv, pa, bd, sc, v, d', e0, e1, e2, e3, r⟩ := h
  exact ⟨tA, f, cN, pm, ctv, pa, bd, sc, v, d', e0, k _ _ e1 (fun _ z => by cases z) (fun _ z => by cases z), k _ _ e2 lamO_ne (fun _ z => by unfold LamO at z; cases z), k _ _ e3 codeO_ne (fun _ z => by unfold CodeO at z; cases z), r⟩
/-- what the elements' reading asks -/
def tElt (X : Cx) (cs : Nat → Addr) (iC iL iV : Nat) (σ : L2.St) : TE := fun σb H Q => ∃ (e : LE) (ρL : Rho) (Hb : Hp) (n : Nat) (d d' : Sa.D) (f cN : Addr) (pm ctv : Value) (pa : Arguments) (bd : Expr) (sc : Scope) (v : V) (z : Str), σb[iC]? = some (some (.ref f)) ∧ σb[iL]? = some (some (.str (lab n))) ∧ σb[iV]? = some (some v) ∧
  H f = some (LamO f (lamObj X pa bd sc pm cN ctv)) ∧ H cN = some (CodeO cN (X.env.qual ++ "<lambda>")) ∧ BodyOk X cs e pa bd sc ∧ Rel X.K ρL σ H Hb ∧ noOwn ρL = true ∧ rCall e.fs e.rx ρL = some (n, d) ∧ n < 4 ∧ Rep X.K Hb d' v ∧
  nRepr [.tup [.lst [.str (lab n)], d]] = some (.val (.str z)) ∧ nRepr [.tup [.lst [.str (lab n)], d']] = some (.val (.str z)) ∧ ∀ H', Gw H H' → Tabs (tbls X.K) H' → Q (.bl true) H'
theorem eq_str {K : Fg} {z : Str} {H : Hp} {Q : VK} (k : ∀ H', Evl.Ex H H' → Q (.bl true) H') : Sa.ror rEq (rEqD K) (.str z) (.str z) H Q := by
  obtain ⟨y1, y2, e, q⟩ := n_eqS.run (K := K) [.str z, .str z] [.str z, .str z] H (fun _ => none) (.val (.bl true)) Q (fun _ _ z => by cases z) ⟨_, _, rfl, .inl rfl, _, _, rfl, .inl rfl, rfl⟩ (by simp [nEqS]) (fun v H' Hb' x1 _ _ _ oa => by cases oa; exact k H' x1)
  cases e
  exact q
theorem Gw.of_ex {H H' : Hp} (e : Evl.Ex H H') : Gw H H' := ⟨fun a o h _ => e a o h, fun a h => Evl.fresh_back e h⟩
section
variable {X : Cx} {cs : Nat → Addr} {pins : List (Addr × Obj)} {σ : L2.St} {H3 : Hp} {s3 : Shared} {OE g g2 : Addr} {fdg fd2 : FuncData} {k : Nat}
/-- the base that holds the maker's cells -/
theorem cells_base {scope : Scope} {cl : List (Str × Addr)} {C : Addr} {fp : List Addr} (I : Inv X pins σ H3 s3) (hf : ∀ x, X.fn x = true) (hfp : ∀ b ∈ fp, FpOk X pins H3 b ∧ b < s3.heap.objs.size) (hst : X.stack = X.env :: X.outer) (hfr : X.env.frame = some X.env.locals) :
    ∃ B : Heap, (∀ b o, X.base.get? b = some o → B.get? b = some o) ∧ X.base.objs.size ≤ B.objs.size ∧ (∀ x c, X.env.cells.lookup x = some c → B.get? c = s3.heap.get? c) ∧
      ((X.blk s3 H3 scope (compEnvC scope cl C X.env) fp).Ok → (Xc.Cx.reb (X.blk s3 H3 scope (compEnvC scope cl C X.env) fp) B).Ok) := by
  have hC : ∀ p ∈ X.env.cells, X.env.cells.lookup p.1 = some p.2 ∨ True := fun _ _ => .inr trivial
  obtain ⟨B, b1, b2, b3, b4⟩ := base_cells s3.heap X.base (X.env.cells.filter fun p => X.env.cells.lookup p.1 == some p.2) I.bk
  have look : ∀ x c, X.env.cells.lookup x = some c → (X.env.cells.filter fun p => X.env.cells.lookup p.1 == some p.2).lookup x = some c := fun x c e => by
    have m := PySem.mem_of_lookup e
    have m2 : (x, c) ∈ X.env.cells.filter fun p => X.env.cells.lookup p.1 == some p.2 := List.mem_filter.mpr ⟨m, by simp [e]⟩
    obtain ⟨c', h'⟩ := mem_lookup m2
    have := (List.mem_filter.mp (PySem.mem_of_lookup h')).2
    simp [e] at this
    rw [h', this]
  have isC : ∀ {b : Addr}, (∃ x, (x, b) ∈ X.env.cells.filter fun p => X.env.cells.lookup p.1 == some p.2) → ∃ x, X.env.cells.lookup x = some b := fun {b} ⟨x, m⟩ => ⟨x, by simpa using (List.mem_filter.mp m).2⟩
  have bsz : X.base.objs.size ≤ s3.heap.objs.size := Nat.le_trans I.ok.bsz I.sz
  refine ⟨B, b1, by rw [b4]; exact bsz, fun x c e => b2 x c (look x c e), fun ok => ok_reb ok b1 (fun b o e => ?_) (by rw [b4]; exact Nat.le_refl _) (fun b o e => ?_) fun b hb => ?_⟩
  · obtain ⟨q1, q2⟩ := b3 b o e
    refine ⟨q1, ?_⟩
    rcases q2 with q2 | q2
    · exact (I.bs b o q2).2
    · obtain ⟨x, hx⟩ := isC q2
      exact I.freeC x b hx
  · obtain ⟨q1, q2⟩ := b3 b o e
    rcases q2 with q2 | q2
    · exact ok.noex b o q2
    · obtain ⟨x, hx⟩ := isC q2
      exact fun m => (hfp b m).1.2.2.2.2.1 x b hx rfl
  · cases q : B.get? b with
    | none => rfl
    | some o =>
      exfalso
      have hb' : b ∈ frs X.stack := hb
      rcases (b3 b o q).2 with q2 | q2
      · have := (I.stack.mem hb').1
        rw [q2] at this; cases this
      · obtain ⟨x, hx⟩ := isC q2
        rcases List.mem_cons.mp (I.stkSub b hb') with z | z
        · exact I.cne x b hx z
        · obtain ⟨_, o', ho', _⟩ := I.ok.funs.mem z
          exact absurd (Nat.lt_of_lt_of_le (Heap.lt_size ho') (I.ok.cab x b (hf x) hx)) (Nat.lt_irrefl _)
end
end Xc

namespace Xc
open PySem PySem.Spec PyProof.Rows L2 LamX Sa
abbrev N63 : List Str := ["pot", "many", "nones", "none", "weights", "ones", "looks", "alone", "sources", "truth", "bad", "far", "wrong", "size", "call", "label", "value"]
section
variable {P : Program} {w : World} {K : Fg} {mg : Str → Option Value} {base : Heap} {cs : Nat → Addr} {OE g g2 f c : Addr} {fdg fd2 : FuncData} {A : Around} {outer : List Env} {s : Shared} {H : Hp}
abbrev X63 (P : Program) (w : World) (K : Fg) (mg : Str → Option Value) (base : Heap) (f c : Addr) (A : Around) (outer : List Env) (s : Shared) (H : Hp) : Cx := bX P w K mg base N63 "_law_right" st__law_right f (.ref c) A outer s H
theorem elt_pe (Tx : Txt mg) (F2 : L2.Fun K "_law_named" "_law_named" st__law_named g2 fd2) (hg2 : mg "_law_named" = some (.ref g2)) (Fg : L2.Fun K "_law_heard" "_law_heard" st__law_heard g fdg) (hg : mg "_law_heard" = some (.ref g)) (hO : mg "OrderError" = some (.ref OE)) (C4 : Cls4 K mg cs OE)
    (ok : Ok (X63 P w K mg base f c A outer s H) 11) {pins : List (Addr × Obj)} {σ : L2.St} {s3 : Shared} {H3 : Hp} {C : Addr} {cl : List (Str × Addr)} {fp : List Addr} {scope : Scope} (I : Inv (X63 P w K mg base f c A outer s H) pins σ H3 s3) (hfp : ∀ b ∈ fp, FpOk (X63 P w K mg base f c A outer s H) pins H3 b ∧ b < s3.heap.objs.size)
    {p1 p2 p3 p4 p5 p6 p7 p8 p9 p10 p11 p12 : Pos} {kk : Nat} (gr : (relS scope (defScope st__law_right)).names.lookup ("repr" : Str) = some .globalImplicit) (gn : (relS scope (defScope st__law_right)).names.lookup ("_law_named" : Str) = some .globalImplicit)
    (v1 : Vis (relS scope (defScope st__law_right)) "call") (v2 : Vis (relS scope (defScope st__law_right)) "label") (v3 : Vis (relS scope (defScope st__law_right)) "value") :
    PE ((X63 P w K mg base f c A outer s H).blk s3 H3 scope (compEnvC scope cl C (X63 P w K mg base f c A outer s H).env) fp)
      (.Compare (.Call (.Name "repr" p1) [.Call (.Name "_law_named" p2) [.Name "call" p3] [] p4] [] p5) [.Eq] [.Call (.Name "repr" p6) [.Tuple [.List [.Name "label" p7] p8, .Name "value" p9] kk p10] [] p11] p12) (tElt (X63 P w K mg base f c A outer s H) cs 14 15 16 σ) := by
  obtain ⟨B, hB, hsz, hC, hok⟩ := cells_base (scope := scope) (cl := cl) (C := C) (fp := fp) I (fun _ => rfl) hfp rfl rfl
  refine pe_reb hok ?_
  let Z : Cx := Xc.Cx.reb ((X63 P w K mg base f c A outer s H).blk s3 H3 scope (compEnvC scope cl C (X63 P w K mg base f c A outer s H).env) fp) B
  have okZ : Ok Z 11 := ⟨ok.calm, ok.nd, ok.gd, ok.room, PassesOwn.never, ok.un⟩
  refine PE.imp (pe_cmpR (X := Z) (op_eqS okZ.un) (pe_callB (cr_repr okZ) gr Tx.b_repr bt_repr (pa_cons (pe_callX (X := Z) (fnX_named (k := 9) Tx F2 Fg hg hO C4) okZ.room okZ.gd gn hg2 F2.kp (F2.binds (fun _ _ _ _ _ _ us hl => match us, hl with | [_], _ => rfl)) takes0 (pa_cons (pe_var (i := 14) rfl v1) pa_nil)) pa_nil))
    (pe_callB (cr_repr okZ) gr Tx.b_repr bt_repr (pa_cons (pe_tup (pa_cons (pe_lst (pa_cons (pe_var (i := 15) rfl v2) pa_nil)) (pa_cons (pe_var (i := 16) rfl v3) pa_nil))) pa_nil)) (by rfl)) fun σb Hb' Q h => ?_
  obtain ⟨e, ρL, Hb, n, d, d', fl, cN, pm, ctv, pa, bd, sc, v, z, i1, i2, i3, hf, hc, hbody, rel, no, hr, hn, rep, z1, z2, q⟩ := h
  have LP := lamP_of (k := 8) (t := tBody K cs e) (pm := pm) (ctv := ctv) (f := fl) (cN := cN) (pa := pa) (bd := bd) I hbody.L hB hsz hC hbody.bnd fun A outer s H E hgu hro => hbody.run A outer s H E fl cN hgu hro
  refine ⟨.ref fl, i1, fl, _, n, d, rfl, hn, LP, rel.tb, fun H1 Q' E' g1 t1 kp => ⟨g1.ex _ _ hf lamO_ne, g1.ex _ _ hc codeO_ne, ρL, Hb, n, d, rel_gw rel g1 t1, no, hr, kp⟩, fun v1 H1 Hb1 g1 t1 nt1 ex1 rep1 => ?_⟩
  dsimp only [tNil, tCons, tCB]
  refine n_repr.run (K := K) [_] [v1] H1 Hb1 _ _ ex1 ⟨_, _, rfl, .inl rep1, rfl⟩ z1 fun v2 H2 Hb2 x2 _ _ _ oa => ?_
  cases oa
  refine ⟨.str (lab n), i2, by show 1 ≤ sizeLine; rw [sizeLine_eq]; omega, fun pl hpl => ⟨v, i3, by show 2 ≤ sizeLine; rw [sizeLine_eq]; omega, fun pt hpt => ?_⟩⟩
  obtain ⟨H5, eH5⟩ : ∃ H5, H5 = upd (upd H2 pl (.lst [.str (lab n)])) pt (.tup [.ref pl, v]) := ⟨_, rfl⟩
  rw [← eH5]
  have npl : pl ≠ pt := fun y => by rw [← y, upd_same] at hpt; cases hpt
  have x5 : Evl.Ex H2 H5 := by rw [eH5]; exact (Evl.Ex.new hpl).trans (Evl.Ex.new hpt)
  have gA : Gw Hb' H5 := (g1.trans (.of_ex x2)).trans (.of_ex x5)
  have tA : Tabs (tbls K) H5 := (t1.ext x2).ext x5
  have r5 : Rep K H5 (.tup [.lst [.str (lab n)], d']) (.ref pt) := by
    refine ⟨pt, [.ref pl, v], rfl, Evl.st_of (by rw [eH5]; exact upd_same), RepL.cons ⟨pl, [.str (lab n)], rfl, Evl.sq_of (by rw [eH5, upd_ne npl, upd_same]), RepL.cons (show Rep K H5 (.str (lab n)) (.str (lab n)) from rfl) RepL.nil⟩ (RepL.cons (Rep.mono (fun b o h => ?_) _ _ rep) RepL.nil)⟩
    exact gA.ex b o (rel.ex b o h) fun ps y => rel.nt b ps (by rw [h, y])
  refine n_repr.run [_] [.ref pt] H5 (Sa.cl H5) _ _ (cl_ex (Evl.Ex.refl _)) ⟨_, _, rfl, .inl (Rep.cl _ _ r5), rfl⟩ z2 fun v7 H7 Hb7 x7 _ _ _ oa => ?_
  cases oa
  exact eq_str fun H8 x8 => q H8 ((gA.trans (.of_ex x7)).trans (.of_ex x8)) ((tA.ext x7).ext x8)
end
end Xc

namespace Xc
open PySem PySem.Spec PyProof.Rows L2 LamX Sa
theorem leOk_inv {e : LE} {ρ : Rho} (h : leOk e ρ = true) : ∃ (d d' : Sa.D) (ρ' : Rho) (z : Str), rCall e.fs e.rx (dropO ρ) = some (e.n, d) ∧ e.n < 4 ∧ e.val (dropO ρ) = .ok (.val d') ρ' ∧ nRepr [.tup [.lst [.str (lab e.n)], d]] = some (.val (.str z)) ∧ nRepr [.tup [.lst [.str (lab e.n)], d']] = some (.val (.str z)) := by
  unfold leOk at h
  split at h
  · rename_i n d d' ρ' e1 e2
    obtain ⟨h1, h2⟩ := Bool.and_eq_true_iff.mp h
    obtain ⟨h0, h1⟩ := Bool.and_eq_true_iff.mp h1
    have h0 := eq_of_beq h0
    subst h0
    split at h2
    · rename_i a b r1 r2
      have := eq_of_beq h2
      subst this
      exact ⟨d, d', ρ', a, e1, of_decide_eq_true h1, e2, r1, r2⟩
    · cases h2
  · cases h
structure ValOk (X : Cx) (ve : Expr) (val : SE) : Prop where
  ex : ∃ tv : TE, PE X ve tv ∧ ∀ ρ σ H Hb Q d' ρ', Rel X.K ρ σ H Hb → val ρ = .ok (.val d') ρ' → (∀ v, Rep X.K Hb d' v → Q v H) → tv σ H Q
theorem val_var {X : Cx} {i : Nat} {x : Str} {pos : Pos} (hN : X.N[i]? = some x) (hv : Vis X.env.scope x) (hd : (x == ("__debug__" : Str)) = false := by decide) (hcd : (x == ("__classdict__" : Str)) = false := by decide) : ValOk X (.Name x pos) (sVar i) :=
  ⟨tVar i, pe_var hN hv hd hcd, fun ρ σ H Hb Q d' ρ' rel e q => by
    simp only [sVar] at e
    split at e
    · rename_i d p h
      cases e
      obtain ⟨v, e1, e2⟩ := rel.val i _ _ h
      exact ⟨v, e1, q v e2⟩
    · cases e
    · cases e⟩
theorem val_int {X : Cx} {i : Int} {j : Nat} {pos : Pos} : ValOk X (.Constant (.int i) j pos) (sC (.int i)) :=
  ⟨tC (.int i), pe_int, fun ρ σ H Hb Q d' ρ' rel e q => by
    cases e
    exact q _ rfl⟩
section
variable {X : Cx} {cs : Nat → Addr} {es : List LE} {iL : Nat}
/-- (lambda: .., "..", ..) -/
theorem pe_ent {c Pt : Addr} {e : LE} {pa : Arguments} {bd ve : Expr} {sc : Scope} {lb : Str} {j kk : Nat} {lp pc pt : Pos} (tab : TabB X.base X.mg c Pt) (code : X.env.code = .ref c)
    (mem : (Pt, X.env.qual ++ "<lambda>") ∈ tbls X.K) (one : ∀ p ∈ tbls X.K, p.1 = Pt → p.2 = X.env.qual ++ "<lambda>") (dft : defaultsOf pa X.env = ([], [])) (B : BodyOk X cs e pa bd sc) (V : ValOk X ve e.val) (hl : lb = lab e.n) (hs2 : starEach [ve] X.env = (false, eval ve X.env) :: starEach [] X.env) :
    PE X (.Tuple [.Lambda pa bd sc lp, .Constant (.str lb) j pc, ve] kk pt) (fun σ H Q => ∃ ρ0 Hb0, Rel X.K ρ0 σ H Hb0 ∧ leOk e ρ0 = true ∧ ∀ t H', Gw H H' → Tabs (tbls X.K) H' → EntAt X cs H' Hb0 (dropO ρ0) t e → Q t H') := by
  subst hl
  obtain ⟨tv, pv1, hv⟩ := V.ex
  refine PE.imp (pe_tup (pa_cons (pe_lamO tab code mem one B.L dft) (pa_cons pe_str (pa_cons pv1 pa_nil hs2)))) fun σ H Q ⟨ρ0, Hb0, rel, hlo, q⟩ => ?_
  obtain ⟨d, d', ρ', z, r1, r2, r3, r4, r5⟩ := leOk_inv hlo
  refine ⟨rel.tb, fun HN f cN pm ctv gN tN fN cNat => ?_⟩
  have g2 : Gw H (upd HN f (LamO f (lamObj X pa bd sc pm cN ctv))) := gN.trans (.new fN)
  have t2 : Tabs (tbls X.K) (upd HN f (LamO f (lamObj X pa bd sc pm cN ctv))) := tabs_upd tN (.inl fN)
  refine hv _ _ _ _ _ _ _ (rel_drop (rel_gw rel g2 t2)) r3 fun v rep => ⟨by show 3 ≤ sizeLine; rw [sizeLine_eq]; omega, fun p hp => ?_⟩
  have x3 : Evl.Ex (upd HN f (LamO f (lamObj X pa bd sc pm cN ctv))) (upd (upd HN f (LamO f (lamObj X pa bd sc pm cN ctv))) p (.tup [.ref f, .str (lab e.n), v])) := .new hp
  exact q _ _ (g2.trans (.new hp)) (tabs_upd t2 (.inl hp)) ⟨p, f, cN, pm, ctv, pa, bd, sc, v, d', rfl, upd_same, x3 _ _ upd_same, x3 _ _ ((Evl.Ex.new fN) _ _ cNat), rep, ⟨ρ', r3⟩, B⟩
/-- the looks so far -/
def LkI (X : Cx) (cs : Nat → Addr) (es : List LE) (iL : Nat) (ρ0 : Rho) (σ0 : L2.St) (H0 Hb0 : Hp) (m : Nat) (σ : L2.St) (H : Hp) : Prop := ρ0[iL]? = some .non ∧ Step X.K ρ0 σ0 H0 Hb0 ρ0 σ H Hb0 ∧ Pin ρ0 σ0 ρ0 σ ∧
  ∃ (l : Addr) (ts : List V), σ[iL]? = some (some (.ref l)) ∧ H l = some (.lst ts) ∧ H0 l = none ∧ (Hb0 l = none ∧ ¬ Own ρ0 σ l) ∧ ts.length = m ∧ ∀ (i : Nat) t, ts[i]? = some t → ∃ e, es[i]? = some e ∧ EntAt X cs H Hb0 (dropO ρ0) t e
def tFirst (X : Cx) (cs : Nat → Addr) (es : List LE) (iL : Nat) : TS := fun D σ H => ∃ ρ0 Hb0, Rel X.K ρ0 σ H Hb0 ∧ ρ0[iL]? = some .non ∧ es.all (fun e => leOk e ρ0) = true ∧ ∀ σ' H', LkI X cs es iL ρ0 σ H Hb0 1 σ' H' → D.nx σ' H'
def tMore (X : Cx) (cs : Nat → Addr) (es : List LE) (iL m : Nat) : TS := fun D σ H => ∃ ρ0 σ0 H0 Hb0, LkI X cs es iL ρ0 σ0 H0 Hb0 m σ H ∧ es.all (fun e => leOk e ρ0) = true ∧ ∀ σ' H', LkI X cs es iL ρ0 σ0 H0 Hb0 (m + 1) σ' H' → D.nx σ' H'
def tLast (X : Cx) (cs : Nat → Addr) (es : List LE) (iL : Nat) : TS := fun D σ H => ∃ ρ0 σ0 H0 Hb0, LkI X cs es iL ρ0 σ0 H0 Hb0 es.length σ H ∧ es.all (fun e => leOk e ρ0) = true ∧ ∀ σ' H', Step X.K ρ0 σ0 H0 Hb0 ρ0 σ' H' Hb0 → Pin ρ0 σ0 ρ0 σ' → D.nx σ' H'
theorem ps_first {x : Str} {e0 : LE} {tu : Expr} {px pl pos : Pos} (hnd : X.N.Nodup) (hN : X.N[iL]? = some x) (hx : Loc X.env.scope x) (he : es[0]? = some e0)
    (ht : PE X tu (fun σ H Q => ∃ ρ0 Hb0, Rel X.K ρ0 σ H Hb0 ∧ leOk e0 ρ0 = true ∧ ∀ t H', Gw H H' → Tabs (tbls X.K) H' → EntAt X cs H' Hb0 (dropO ρ0) t e0 → Q t H')) (hst : starEach [tu] X.env = (false, eval tu X.env) :: starEach [] X.env)
    (hs : swapsWith (.List [tu] pl) (some (.Name x px)) pos.line X.env = pure false) (hf : X.fn x = true ∨ X.env.scope.names.lookup x = some .local) :
    PS X (.Assign [.Name x px] (.List [tu] pl) pos) (tFirst X cs es iL) := by
  refine PS.imp (ps_set (i := iL) hnd hN hx (pe_lst (pa_cons ht pa_nil hst)) hs hf) fun D σ H ⟨ρ0, Hb0, rel, hi, all, q⟩ => ?_
  refine ⟨ρ0, Hb0, rel, List.all_eq_true.mp all _ (List.mem_of_getElem? he), fun t H1 g1 t1 ent => ⟨by show 1 ≤ sizeLine; rw [sizeLine_eq]; omega, fun l hl => q _ _ ?_⟩⟩
  have gl := g1.al l hl
  have st : Step X.K ρ0 σ H Hb0 ρ0 σ (upd H1 l (.lst [t])) Hb0 := step_gw2 (Step.refl rel) (g1.trans (.new hl)) (tabs_upd t1 (.inl hl))
  have lσ : iL < σ.length := by rw [← rel.len]; exact (List.getElem?_eq_some_iff.mp hi).1
  refine ⟨hi, step_non st hi, pin_non hi, l, [t], List.getElem?_set_self lσ, upd_same, gl, ⟨Evl.fresh_back rel.ex gl, fun ⟨i, o, p, h1, h2⟩ => ?_⟩, rfl, fun i t' h => ?_⟩
  · have q : (σ.set iL (some (.ref l)))[i]? = σ[i]? := List.getElem?_set_ne fun z => by
      subst z
      rw [hi] at h1
      cases h1
    rw [q] at h2
    exact (rel.own_some ⟨i, o, p, h1, h2⟩).1 gl
  match i, h with
  | 0, h =>
    cases h
    exact ⟨e0, he, ent.keep fun a o h _ _ => (Evl.Ex.new hl) a o h⟩
theorem ps_more {x : Str} {m : Nat} {e0 : LE} {tu : Expr} {px pa pc pos : Pos} (hN : X.N[iL]? = some x) (hx : Vis X.env.scope x) (he : es[m]? = some e0) (hm : m < 1000)
    (ht : PE X tu (fun σ H Q => ∃ ρ0 Hb0, Rel X.K ρ0 σ H Hb0 ∧ leOk e0 ρ0 = true ∧ ∀ t H', Gw H H' → Tabs (tbls X.K) H' → EntAt X cs H' Hb0 (dropO ρ0) t e0 → Q t H')) (hst : starEach [tu] X.env = (false, eval tu X.env) :: starEach [] X.env)
    (hbase : attributeBase (.Name x px) "append" X.env (eval (.Name x px) X.env) = eval (.Name x px) X.env)
    (hfew : ((backTo pc (starEach [tu] X.env)).all (fun x => !x.1) && (backToKw pc (keywordEach [] X.env)).all (fun x => x.1.isSome) && decide ([tu].length + ([] : List Keyword).length + (if ([] : List Keyword).isEmpty then 0 else 1) < 30)) = true)
    (hline : (pa.endLine == pc.line) = true) (hplain : (backTo pc (starEach [] X.env)).any (·.1) = false) (hs : swapsWith (.Call (.Attribute (.Name x px) "append" pa) [tu] [] pc) none pos.line X.env = pure false)
    (hd : (x == ("__debug__" : Str)) = false) (hcd : (x == ("__classdict__" : Str)) = false) :
    PS X (.Expr (.Call (.Attribute (.Name x px) "append" pa) [tu] [] pc) pos) (tMore X cs es iL m) := by
  refine PS.imp (ps_expr (pe_bm PySem.F.plainAttrs_list PySem.F.slot_list_append PySem.F.type_list_append mt_append (pe_var hN hx hd hcd) (pa_cons ht pa_nil hst) hbase hfew hline hst hplain) hs) fun D σ H ⟨ρ0, σ0, H0, Hb0, ⟨hi, st, pn, l, ts, hl, al, l0, ⟨b0, nown⟩, len, ents⟩, all, q⟩ => ?_
  refine ⟨.ref l, hl, .inl ⟨rfl, _, Evl.sq_of al⟩, ρ0, Hb0, st.rel, List.all_eq_true.mp all _ (List.mem_of_getElem? he), fun t H1 g1 t1 ent => ?_⟩
  have al1 : H1 l = some (.lst ts) := g1.ex _ _ al (fun ps z => by cases z)
  refine ⟨l, ts, t, rfl, rfl, al1, ?_, q _ _ ?_⟩
  · rw [len]
    exact Nat.lt_of_lt_of_le hm (by rw [sizeLine_eq]; omega)
  have keepN : ∀ a o, H1 a = some o → (∀ ps, o ≠ .tbl ps) → (∀ xs, o ≠ .lst xs) → (upd H1 l (.lst (ts ++ [t]))) a = some o := fun a o h _ n => by
    rw [upd_ne (fun z => by rw [z, al1] at h; exact n _ (Option.some.inj h).symm)]
    exact h
  refine ⟨hi, Step.side (step_gw2 st g1 t1) l0 b0 nown (.inr ⟨_, al1⟩), pn, l, ts ++ [t], hl, upd_same, l0, ⟨b0, nown⟩, by rw [List.length_append, len]; rfl, fun i t' h => ?_⟩
  by_cases hlt : i < ts.length
  · rw [List.getElem?_append_left hlt] at h
    obtain ⟨e, h1, h2⟩ := ents i t' h
    exact ⟨e, h1, (h2.keep fun a o h n _ => g1.ex a o h n).keep keepN⟩
  · rw [List.getElem?_append_right (by omega)] at h
    cases hz : i - ts.length with
    | succ j => rw [hz] at h; simp at h
    | zero =>
      rw [hz] at h
      cases h
      have : i = m := by omega
      subst this
      exact ⟨e0, he, ent.keep keepN⟩
end
end Xc

namespace Xc
open PySem PySem.Spec PyProof.Rows L2 LamX Sa
theorem PS.impL {X : Cx} {e : Stmt} {t u : TS} (h : PS X e t) (k : ∀ D σ H, σ.length = X.N.length → u D σ H → t D σ H) : PS X e u := ⟨fun pins s σ H D I q => h.run pins s σ H D I (k D σ H I.len q)⟩
theorem wipe3 {σ : L2.St} {a b c : Option V} {i j k : Nat} (hij : i ≠ j) (hik : i ≠ k) (hjk : j ≠ k) : wipe ((((wipe σ [i, j, k]).set i a).set j b).set k c) [i, j, k] = wipe σ [i, j, k] := by
  apply List.ext_getElem?
  intro m
  simp only [wipe]
  by_cases hi : i = m
  · subst hi
    by_cases hl : i < σ.length
    · rw [List.getElem?_set_self (by simpa using hl), List.getElem?_set_self (by simpa using hl)]
    · rw [List.getElem?_eq_none (by simp; omega), List.getElem?_eq_none (by simp; omega)]
  by_cases hj : j = m
  · subst hj
    rw [List.getElem?_set_ne hi, List.getElem?_set_ne hi]
    by_cases hl : j < σ.length
    · rw [List.getElem?_set_self (by simpa using hl), List.getElem?_set_self (by simpa using hl)]
    · rw [List.getElem?_eq_none (by simp; omega), List.getElem?_eq_none (by simp; omega)]
  by_cases hk : k = m
  · subst hk
    rw [List.getElem?_set_ne hi, List.getElem?_set_ne hi, List.getElem?_set_ne hj, List.getElem?_set_ne hj]
    by_cases hl : k < σ.length
    · rw [List.getElem?_set_self (by simpa using hl), List.getElem?_set_self (by simpa using hl)]
    · rw [List.getElem?_eq_none (by simp; omega), List.getElem?_eq_none (by simp; omega)]
  rw [List.getElem?_set_ne hi, List.getElem?_set_ne hj, List.getElem?_set_ne hk, List.getElem?_set_ne hk, List.getElem?_set_ne hj, List.getElem?_set_ne hi]
section
variable {P : Program} {w : World} {K : Fg} {mg : Str → Option Value} {base : Heap} {cs : Nat → Addr} {OE g g2 f c : Addr} {fdg fd2 : FuncData} {A : Around} {outer : List Env} {s : Shared} {H : Hp}
theorem ps_last {es : List LE} (Tx : Txt mg) (F2 : L2.Fun K "_law_named" "_law_named" st__law_named g2 fd2) (hg2 : mg "_law_named" = some (.ref g2)) (Fg : L2.Fun K "_law_heard" "_law_heard" st__law_heard g fdg) (hg : mg "_law_heard" = some (.ref g)) (hO : mg "OrderError" = some (.ref OE)) (C4 : Cls4 K mg cs OE)
    (ok : Ok (X63 P w K mg base f c A outer s H) 11) (hes : es.length < 1000) {scope : Scope} {p1 p2 p3 p4 p5 p6 p7 p8 p9 p10 p11 p12 q1 q2 q3 q4 q5 q6 q7 q8 q9 q10 : Pos} {kk k2 : Nat} {body : List Stmt} (gr : (relS scope (defScope st__law_right)).names.lookup ("repr" : Str) = some .globalImplicit) (gn : (relS scope (defScope st__law_right)).names.lookup ("_law_named" : Str) = some .globalImplicit)
    (v1 : Loc (relS scope (defScope st__law_right)) "call") (v2 : Loc (relS scope (defScope st__law_right)) "label") (v3 : Loc (relS scope (defScope st__law_right)) "value")
    (f1 : (fun x => scope.names.lookup x == some NameKind.cell) "call" = true ∨ (relS scope (defScope st__law_right)).names.lookup ("call" : Str) = some .local) (f2 : (fun x => scope.names.lookup x == some NameKind.cell) "label" = true ∨ (relS scope (defScope st__law_right)).names.lookup ("label" : Str) = some .local)
    (f3 : (fun x => scope.names.lookup x == some NameKind.cell) "value" = true ∨ (relS scope (defScope st__law_right)).names.lookup ("value" : Str) = some .local)
    (bk : BlkOk N63 (defScope st__law_right) scope [("call", 14), ("label", 15), ("value", 16)])
    (hs : ∀ x, foldedSetIterable (.Name "looks" q4) (X63 P w K mg base f c A outer s H).env x = pure x := by intro _; rfl) :
    PS (X63 P w K mg base f c A outer s H) (.If (.UnaryOp .Not (.Call (.Name "all" q1) [.ListComp (.Compare (.Call (.Name "repr" p1) [.Call (.Name "_law_named" p2) [.Name "call" p3] [] p4] [] p5) [.Eq] [.Call (.Name "repr" p6) [.Tuple [.List [.Name "label" p7] p8, .Name "value" p9] kk p10] [] p11] p12)
      [⟨.Tuple [.Name "call" q5, .Name "label" q6, .Name "value" q7] k2 q8, .Name "looks" q4, [], 0⟩] scope q9] [] q2) q3) body [] q10) (tLast (X63 P w K mg base f c A outer s H) cs es 6) := by
  have vv : ∀ {x : Str}, Loc (relS scope (defScope st__law_right)) x → Vis (relS scope (defScope st__law_right)) x := fun h => h.elim .inl fun h => .inr (.inl h)
  have tgt : ∀ (s' : Shared) (H' : Hp) (C : Addr) (cl : List (Str × Addr)) (fp : List Addr), PG ((X63 P w K mg base f c A outer s H).blk s' H' scope (compEnvC scope cl C (X63 P w K mg base f c A outer s H).env) fp) (.Tuple [.Name "call" q5, .Name "label" q6, .Name "value" q7] k2 q8) (gTup K 3 (gCons (gName 14) (gCons (gName 15) (gCons (gName 16) gNil)))) := fun s' H' C cl fp =>
    let Z : Cx := (X63 P w K mg base f c A outer s H).blk s' H' scope (compEnvC scope cl C (X63 P w K mg base f c A outer s H).env) fp
    pg_tup (X := Z) ok.calm (pgs_cons (X := Z) (pg_name (X := Z) (i := 14) ok.nd rfl v1 f1) (pgs_cons (X := Z) (pg_name (X := Z) (i := 15) ok.nd rfl v2 f2) (pgs_cons (X := Z) (pg_name (X := Z) (i := 16) ok.nd rfl v3 f3) pgs_nil)))
  refine PS.impL (ps_if (pt_not (pt_val (pe_callB (cr_all ok.calm) (by rfl) Tx.b_all bt_all (pa_cons (pe_lcI (te := tElt (X63 P w K mg base f c A outer s H) cs 14 15 16) (own := [("call", 14), ("label", 15), ("value", 16)]) ok.calm ok.nd (pi_list (pv 6)) bk
      tgt
      (fun pins σ s3 H3 C cl fp I hfp => elt_pe Tx F2 hg2 Fg hg hO C4 ok I hfp gr gn (vv v1) (vv v2) (vv v3)) hs) pa_nil)))) pss_never pss_nil) fun D σ H1 l17 ⟨ρ0, σ0, H0, Hb0, ⟨hi, st, pn, l, ts, hl, al, l0, ⟨b0, nown⟩, len, ents⟩, all, q⟩ => ?_
  refine ⟨.ref l, hl, l, rfl, ⟨ts, Evl.sq_of al⟩, fun Dl hD => ?_⟩
  refine lc_list (K := K) (xs := ts) (fun i Hc => Gw H1 Hc ∧ Tabs (tbls K) Hc ∧ Hc Dl = some (.lst ((List.replicate i true).map V.bl))) ⟨.new hD, tabs_upd st.rel.tb (.inl hD), upd_same⟩ (fun i Hc _ hp => Evl.sq_of (hp.1.ex _ _ al fun ps z => by cases z)) (fun i t Hc ht hp => ?_) fun Hc hp => ?_
  · obtain ⟨gw, tb, aD⟩ := hp
    obtain ⟨e, he, tA, fl, cN, pm, ctv, pa, bd, sc, v, d', rfl, e1, e2, e3, rep, ⟨ρ', hval⟩, hbody⟩ := ents i t ht
    obtain ⟨d, d2, ρ2, z, r1, r2, r3, r4, r5⟩ := leOk_inv (List.all_eq_true.mp all _ (List.mem_of_getElem? he))
    rw [hval] at r3
    cases r3
    refine ⟨tA, [.ref fl, .str (lab e.n), v], rfl, Evl.st_of (gw.ex _ _ e1 fun ps z => by cases z), rfl, .ref fl, [.str (lab e.n), v], rfl, .str (lab e.n), [v], rfl, v, [], rfl, rfl, ?_⟩
    have l17 : σ.length = 17 := l17
    have wl : (wipe σ [14, 15, 16]).length = 17 := by rw [wipe_length]; exact l17
    refine ⟨wipe3 (by decide) (by decide) (by decide), ?_⟩
    refine ⟨e, dropO ρ0, Hb0, e.n, d, d', fl, cN, pm, ctv, pa, bd, sc, v, z, ?_, ?_, ?_, gw.ex _ _ e2 lamO_ne, gw.ex _ _ e3 codeO_ne, hbody, ?_, noOwn_drop ρ0, r1, r2, rep, r4, r5, fun H' g' t' => ?_⟩
    · show ((((wipe σ [14, 15, 16]).set 14 _).set 15 _).set 16 _)[14]? = _
      rw [List.getElem?_set_ne (by decide), List.getElem?_set_ne (by decide), List.getElem?_set_self (by rw [wl]; decide)]
    · show ((((wipe σ [14, 15, 16]).set 14 _).set 15 _).set 16 _)[15]? = _
      rw [List.getElem?_set_ne (by decide), List.getElem?_set_self (by rw [List.length_set, wl]; decide)]
    · show ((((wipe σ [14, 15, 16]).set 14 _).set 15 _).set 16 _)[16]? = _
      rw [List.getElem?_set_self (by rw [List.length_set, List.length_set, wl]; decide)]
    · exact rel_drop (rel_gw st.rel gw tb)
    · have aD' := g'.ex _ _ aD (fun ps y => by cases y)
      have lt : i < ts.length := (List.getElem?_eq_some_iff.mp ht).1
      refine ⟨_, aD', ?_, (gw.trans g').put hD, tabs_upd t' (.inr ⟨_, aD'⟩), ?_⟩
      · rw [List.length_map, List.length_replicate, sizeLine_eq]
        omega
      · rw [upd_same, List.replicate_succ', List.map_append]
        rfl
  · refine ⟨Dl, List.replicate ts.length true, rfl, Evl.sq_of hp.2.2, _, rfl, ?_⟩
    have e : (List.replicate ts.length true).all id = true := by simp
    rw [e]
    exact iteF (q σ Hc (step_gw2 st hp.1 hp.2.1) pn)
end
end Xc

/-! The looks' statements (printed by mkXv.py) -/
namespace Xc
open PySem PySem.Spec PyProof.Rows L2 LamX Sa
def lkSt (i : Nat) : Stmt := (defBody st__law_right).getD (8 + i) (.Pass ⟨0, 0, 0, 0⟩)
structure DXs (P : Program) (w : World) (K : Fg) (mg : Str → Option Value) (base : Heap) (cs : Nat → Addr) : Prop where
  d_have : DefX P w K mg base cs 5 "have" ["sources", "truth"] rx_have
  d_agreed : DefX P w K mg base cs 5 "agreed" ["sources", "many"] rx_agreed
  d_best_agreed : DefX P w K mg base cs 5 "best_agreed" ["sources"] rx_best_agreed
  d_lots_right : DefX P w K mg base cs 5 "lots_right" ["sources"] rx_lots_right
  d_truth_spans : DefX P w K mg base cs 6 "truth_spans" ["sources", "wrong"] rx_truth_spans
  d_surely_right : DefX P w K mg base cs 7 "surely_right" ["sources", "wrong"] rx_surely_right
  d_surely_wrong : DefX P w K mg base cs 7 "surely_wrong" ["sources", "wrong"] rx_surely_wrong
  d_trimmed : DefX P w K mg base cs 6 "trimmed" ["sources", "wrong"] rx_trimmed
  d_hull : DefX P w K mg base cs 7 "hull" ["sources", "wrong"] rx_hull
  d_pulled : DefX P w K mg base cs 6 "pulled" ["sources", "wrong", "at"] rx_pulled
  d_weighed : DefX P w K mg base cs 5 "weighed" ["sources", "weights", "enough"] rx_weighed
section
variable {P : Program} {w : World} {K : Fg} {mg : Str → Option Value} {base : Heap} {cs : Nat → Addr} {OE g g2 f c Pt : Addr} {fdg fd2 : FuncData} {A : Around} {outer : List Env} {s : Shared} {H : Hp}
theorem tb_mem (hT : PySem.W.tabIn K "_law_right" = some (c, Pt)) : (Pt, (X63 P w K mg base f c A outer s H).env.qual ++ "<lambda>") ∈ tbls K := by
  rw [tbls_one rfl hT]
  exact List.mem_singleton.mpr rfl
theorem tb_one (hT : PySem.W.tabIn K "_law_right" = some (c, Pt)) : ∀ p ∈ tbls K, p.1 = Pt → p.2 = (X63 P w K mg base f c A outer s H).env.qual ++ "<lambda>" := fun p hp _ => by
  rw [tbls_one rfl hT] at hp
  rw [List.mem_singleton.mp hp]
  rfl
theorem lk_0 (DX : DXs P w K mg base cs) (hT : PySem.W.tabIn K "_law_right" = some (c, Pt)) (tab : TabB base mg c Pt) (ok : Ok (X63 P w K mg base f c A outer s H) 11) : PS (X63 P w K mg base f c A outer s H) (lkSt 0) (tFirst (X63 P w K mg base f c A outer s H) cs looksE 6) :=
  ps_first ok.nd (by rfl) (.inl rfl) (by rfl) (pe_ent (e := ⟨[sVar 3, sVar 11], rx_have, 0, sVar 3⟩) tab rfl (tb_mem hT) (tb_one hT) rfl ⟨lamS_by (show lamSB (defScope st__law_right) _ = true by decide +kernel), fun _ _ _ _ _ => rfl, fun A outer s H E fl cN hgu hr => pe_callXX DX.d_have (by decide) hr hgu (takes_of rfl rfl rfl rfl) (by rfl) (da_cons (d_var 3) (da_cons (d_var 11) (da_nil)))⟩ (val_var rfl (by first | exact Or.inl rfl | exact Or.inr (Or.inl rfl) | exact Or.inr (Or.inr rfl))) (by rfl) (by rfl)) (by rfl) (by rfl) (.inr rfl)
theorem lk_1 (DX : DXs P w K mg base cs) (hT : PySem.W.tabIn K "_law_right" = some (c, Pt)) (tab : TabB base mg c Pt) (ok : Ok (X63 P w K mg base f c A outer s H) 11) : PS (X63 P w K mg base f c A outer s H) (lkSt 1) (tMore (X63 P w K mg base f c A outer s H) cs looksE 6 1) :=
  ps_more (m := 1) (by rfl) (.inl rfl) (by rfl) (by decide) (pe_ent (e := ⟨[sVar 3, sVar 13], rx_agreed, 0, sVar 3⟩) tab rfl (tb_mem hT) (tb_one hT) rfl ⟨lamS_by (show lamSB (defScope st__law_right) _ = true by decide +kernel), fun _ _ _ _ _ => rfl, fun A outer s H E fl cN hgu hr => pe_callXX DX.d_agreed (by decide) hr hgu (takes_of rfl rfl rfl rfl) (by rfl) (da_cons (d_var 3) (da_cons (d_var 13) (da_nil)))⟩ (val_var rfl (by first | exact Or.inl rfl | exact Or.inr (Or.inl rfl) | exact Or.inr (Or.inr rfl))) (by rfl) (by rfl)) (by rfl) (by rfl) (by rfl) (by rfl) (by rfl) (by rfl) (by decide) (by decide)
theorem lk_2 (DX : DXs P w K mg base cs) (hT : PySem.W.tabIn K "_law_right" = some (c, Pt)) (tab : TabB base mg c Pt) (ok : Ok (X63 P w K mg base f c A outer s H) 11) : PS (X63 P w K mg base f c A outer s H) (lkSt 2) (tMore (X63 P w K mg base f c A outer s H) cs looksE 6 2) :=
  ps_more (m := 2) (by rfl) (.inl rfl) (by rfl) (by decide) (pe_ent (e := ⟨[sVar 3], rx_best_agreed, 0, sVar 3⟩) tab rfl (tb_mem hT) (tb_one hT) rfl ⟨lamS_by (show lamSB (defScope st__law_right) _ = true by decide +kernel), fun _ _ _ _ _ => rfl, fun A outer s H E fl cN hgu hr => pe_callXX DX.d_best_agreed (by decide) hr hgu (takes_of rfl rfl rfl rfl) (by rfl) (da_cons (d_var 3) (da_nil))⟩ (val_var rfl (by first | exact Or.inl rfl | exact Or.inr (Or.inl rfl) | exact Or.inr (Or.inr rfl))) (by rfl) (by rfl)) (by rfl) (by rfl) (by rfl) (by rfl) (by rfl) (by rfl) (by decide) (by decide)
theorem lk_3 (DX : DXs P w K mg base cs) (hT : PySem.W.tabIn K "_law_right" = some (c, Pt)) (tab : TabB base mg c Pt) (ok : Ok (X63 P w K mg base f c A outer s H) 11) : PS (X63 P w K mg base f c A outer s H) (lkSt 3) (tMore (X63 P w K mg base f c A outer s H) cs looksE 6 3) :=
  ps_more (m := 3) (by rfl) (.inl rfl) (by rfl) (by decide) (pe_ent (e := ⟨[sVar 3], rx_lots_right, 0, sVar 3⟩) tab rfl (tb_mem hT) (tb_one hT) rfl ⟨lamS_by (show lamSB (defScope st__law_right) _ = true by decide +kernel), fun _ _ _ _ _ => rfl, fun A outer s H E fl cN hgu hr => pe_callXX DX.d_lots_right (by decide) hr hgu (takes_of rfl rfl rfl rfl) (by rfl) (da_cons (d_var 3) (da_nil))⟩ (val_var rfl (by first | exact Or.inl rfl | exact Or.inr (Or.inl rfl) | exact Or.inr (Or.inr rfl))) (by rfl) (by rfl)) (by rfl) (by rfl) (by rfl) (by rfl) (by rfl) (by rfl) (by decide) (by decide)
theorem lk_4 (DX : DXs P w K mg base cs) (hT : PySem.W.tabIn K "_law_right" = some (c, Pt)) (tab : TabB base mg c Pt) (ok : Ok (X63 P w K mg base f c A outer s H) 11) : PS (X63 P w K mg base f c A outer s H) (lkSt 4) (tMore (X63 P w K mg base f c A outer s H) cs looksE 6 4) :=
  ps_more (m := 4) (by rfl) (.inl rfl) (by rfl) (by decide) (pe_ent (e := ⟨[sVar 3, sVar 12], rx_truth_spans, 0, sVar 3⟩) tab rfl (tb_mem hT) (tb_one hT) rfl ⟨lamS_by (show lamSB (defScope st__law_right) _ = true by decide +kernel), fun _ _ _ _ _ => rfl, fun A outer s H E fl cN hgu hr => pe_callXX DX.d_truth_spans (by decide) hr hgu (takes_of rfl rfl rfl rfl) (by rfl) (da_cons (d_var 3) (da_cons (d_var 12) (da_nil)))⟩ (val_var rfl (by first | exact Or.inl rfl | exact Or.inr (Or.inl rfl) | exact Or.inr (Or.inr rfl))) (by rfl) (by rfl)) (by rfl) (by rfl) (by rfl) (by rfl) (by rfl) (by rfl) (by decide) (by decide)
theorem lk_5 (DX : DXs P w K mg base cs) (hT : PySem.W.tabIn K "_law_right" = some (c, Pt)) (tab : TabB base mg c Pt) (ok : Ok (X63 P w K mg base f c A outer s H) 11) : PS (X63 P w K mg base f c A outer s H) (lkSt 5) (tMore (X63 P w K mg base f c A outer s H) cs looksE 6 5) :=
  ps_more (m := 5) (by rfl) (.inl rfl) (by rfl) (by decide) (pe_ent (e := ⟨[sVar 3, sVar 12], rx_surely_right, 0, sVar 3⟩) tab rfl (tb_mem hT) (tb_one hT) rfl ⟨lamS_by (show lamSB (defScope st__law_right) _ = true by decide +kernel), fun _ _ _ _ _ => rfl, fun A outer s H E fl cN hgu hr => pe_callXX DX.d_surely_right (by decide) hr hgu (takes_of rfl rfl rfl rfl) (by rfl) (da_cons (d_var 3) (da_cons (d_var 12) (da_nil)))⟩ (val_var rfl (by first | exact Or.inl rfl | exact Or.inr (Or.inl rfl) | exact Or.inr (Or.inr rfl))) (by rfl) (by rfl)) (by rfl) (by rfl) (by rfl) (by rfl) (by rfl) (by rfl) (by decide) (by decide)
theorem lk_6 (DX : DXs P w K mg base cs) (hT : PySem.W.tabIn K "_law_right" = some (c, Pt)) (tab : TabB base mg c Pt) (ok : Ok (X63 P w K mg base f c A outer s H) 11) : PS (X63 P w K mg base f c A outer s H) (lkSt 6) (tMore (X63 P w K mg base f c A outer s H) cs looksE 6 6) :=
  ps_more (m := 6) (by rfl) (.inl rfl) (by rfl) (by decide) (pe_ent (e := ⟨[sVar 3, sVar 12], rx_surely_wrong, 0, sVar 3⟩) tab rfl (tb_mem hT) (tb_one hT) rfl ⟨lamS_by (show lamSB (defScope st__law_right) _ = true by decide +kernel), fun _ _ _ _ _ => rfl, fun A outer s H E fl cN hgu hr => pe_callXX DX.d_surely_wrong (by decide) hr hgu (takes_of rfl rfl rfl rfl) (by rfl) (da_cons (d_var 3) (da_cons (d_var 12) (da_nil)))⟩ (val_var rfl (by first | exact Or.inl rfl | exact Or.inr (Or.inl rfl) | exact Or.inr (Or.inr rfl))) (by rfl) (by rfl)) (by rfl) (by rfl) (by rfl) (by rfl) (by rfl) (by rfl) (by decide) (by decide)
theorem lk_7 (DX : DXs P w K mg base cs) (hT : PySem.W.tabIn K "_law_right" = some (c, Pt)) (tab : TabB base mg c Pt) (ok : Ok (X63 P w K mg base f c A outer s H) 11) : PS (X63 P w K mg base f c A outer s H) (lkSt 7) (tMore (X63 P w K mg base f c A outer s H) cs looksE 6 7) :=
  ps_more (m := 7) (by rfl) (.inl rfl) (by rfl) (by decide) (pe_ent (e := ⟨[sVar 3, sVar 12], rx_trimmed, 0, sVar 3⟩) tab rfl (tb_mem hT) (tb_one hT) rfl ⟨lamS_by (show lamSB (defScope st__law_right) _ = true by decide +kernel), fun _ _ _ _ _ => rfl, fun A outer s H E fl cN hgu hr => pe_callXX DX.d_trimmed (by decide) hr hgu (takes_of rfl rfl rfl rfl) (by rfl) (da_cons (d_var 3) (da_cons (d_var 12) (da_nil)))⟩ (val_var rfl (by first | exact Or.inl rfl | exact Or.inr (Or.inl rfl) | exact Or.inr (Or.inr rfl))) (by rfl) (by rfl)) (by rfl) (by rfl) (by rfl) (by rfl) (by rfl) (by rfl) (by decide) (by decide)
theorem lk_8 (DX : DXs P w K mg base cs) (hT : PySem.W.tabIn K "_law_right" = some (c, Pt)) (tab : TabB base mg c Pt) (ok : Ok (X63 P w K mg base f c A outer s H) 11) : PS (X63 P w K mg base f c A outer s H) (lkSt 8) (tMore (X63 P w K mg base f c A outer s H) cs looksE 6 8) :=
  ps_more (m := 8) (by rfl) (.inl rfl) (by rfl) (by decide) (pe_ent (e := ⟨[sVar 3, sVar 12], rx_hull, 0, sVar 3⟩) tab rfl (tb_mem hT) (tb_one hT) rfl ⟨lamS_by (show lamSB (defScope st__law_right) _ = true by decide +kernel), fun _ _ _ _ _ => rfl, fun A outer s H E fl cN hgu hr => pe_callXX DX.d_hull (by decide) hr hgu (takes_of rfl rfl rfl rfl) (by rfl) (da_cons (d_var 3) (da_cons (d_var 12) (da_nil)))⟩ (val_var rfl (by first | exact Or.inl rfl | exact Or.inr (Or.inl rfl) | exact Or.inr (Or.inr rfl))) (by rfl) (by rfl)) (by rfl) (by rfl) (by rfl) (by rfl) (by rfl) (by rfl) (by decide) (by decide)
theorem lk_9 (DX : DXs P w K mg base cs) (hT : PySem.W.tabIn K "_law_right" = some (c, Pt)) (tab : TabB base mg c Pt) (ok : Ok (X63 P w K mg base f c A outer s H) 11) : PS (X63 P w K mg base f c A outer s H) (lkSt 9) (tMore (X63 P w K mg base f c A outer s H) cs looksE 6 9) :=
  ps_more (m := 9) (by rfl) (.inl rfl) (by rfl) (by decide) (pe_ent (e := ⟨[sVar 3, sVar 12, sVar 10], rx_pulled, 0, sVar 3⟩) tab rfl (tb_mem hT) (tb_one hT) rfl ⟨lamS_by (show lamSB (defScope st__law_right) _ = true by decide +kernel), fun _ _ _ _ _ => rfl, fun A outer s H E fl cN hgu hr => pe_callXX DX.d_pulled (by decide) hr hgu (takes_of rfl rfl rfl rfl) (by rfl) (da_cons (d_var 3) (da_cons (d_var 12) (da_cons (d_var 10) (da_nil))))⟩ (val_var rfl (by first | exact Or.inl rfl | exact Or.inr (Or.inl rfl) | exact Or.inr (Or.inr rfl))) (by rfl) (by rfl)) (by rfl) (by rfl) (by rfl) (by rfl) (by rfl) (by rfl) (by decide) (by decide)
theorem lk_10 (DX : DXs P w K mg base cs) (hT : PySem.W.tabIn K "_law_right" = some (c, Pt)) (tab : TabB base mg c Pt) (ok : Ok (X63 P w K mg base f c A outer s H) 11) : PS (X63 P w K mg base f c A outer s H) (lkSt 10) (tMore (X63 P w K mg base f c A outer s H) cs looksE 6 10) :=
  ps_more (m := 10) (by rfl) (.inl rfl) (by rfl) (by decide) (pe_ent (e := ⟨[sVar 3, sVar 4, sVar 10], rx_weighed, 0, sVar 3⟩) tab rfl (tb_mem hT) (tb_one hT) rfl ⟨lamS_by (show lamSB (defScope st__law_right) _ = true by decide +kernel), fun _ _ _ _ _ => rfl, fun A outer s H E fl cN hgu hr => pe_callXX DX.d_weighed (by decide) hr hgu (takes_of rfl rfl rfl rfl) (by rfl) (da_cons (d_var 3) (da_cons (d_var 4) (da_cons (d_var 10) (da_nil))))⟩ (val_var rfl (by first | exact Or.inl rfl | exact Or.inr (Or.inl rfl) | exact Or.inr (Or.inr rfl))) (by rfl) (by rfl)) (by rfl) (by rfl) (by rfl) (by rfl) (by rfl) (by rfl) (by decide) (by decide)
theorem lk_11 (DX : DXs P w K mg base cs) (hT : PySem.W.tabIn K "_law_right" = some (c, Pt)) (tab : TabB base mg c Pt) (ok : Ok (X63 P w K mg base f c A outer s H) 11) : PS (X63 P w K mg base f c A outer s H) (lkSt 11) (tMore (X63 P w K mg base f c A outer s H) cs looksE 6 11) :=
  ps_more (m := 11) (by rfl) (.inl rfl) (by rfl) (by decide) (pe_ent (e := ⟨[sVar 8, sVar 11], rx_have, 1, sVar 11⟩) tab rfl (tb_mem hT) (tb_one hT) rfl ⟨lamS_by (show lamSB (defScope st__law_right) _ = true by decide +kernel), fun _ _ _ _ _ => rfl, fun A outer s H E fl cN hgu hr => pe_callXX DX.d_have (by decide) hr hgu (takes_of rfl rfl rfl rfl) (by rfl) (da_cons (d_var 8) (da_cons (d_var 11) (da_nil)))⟩ (val_var rfl (by first | exact Or.inl rfl | exact Or.inr (Or.inl rfl) | exact Or.inr (Or.inr rfl))) (by rfl) (by rfl)) (by rfl) (by rfl) (by rfl) (by rfl) (by rfl) (by rfl) (by decide) (by decide)
theorem lk_12 (DX : DXs P w K mg base cs) (hT : PySem.W.tabIn K "_law_right" = some (c, Pt)) (tab : TabB base mg c Pt) (ok : Ok (X63 P w K mg base f c A outer s H) 11) : PS (X63 P w K mg base f c A outer s H) (lkSt 12) (tMore (X63 P w K mg base f c A outer s H) cs looksE 6 12) :=
  ps_more (m := 12) (by rfl) (.inl rfl) (by rfl) (by decide) (pe_ent (e := ⟨[sVar 8, sVar 13], rx_agreed, 1, sVar 13⟩) tab rfl (tb_mem hT) (tb_one hT) rfl ⟨lamS_by (show lamSB (defScope st__law_right) _ = true by decide +kernel), fun _ _ _ _ _ => rfl, fun A outer s H E fl cN hgu hr => pe_callXX DX.d_agreed (by decide) hr hgu (takes_of rfl rfl rfl rfl) (by rfl) (da_cons (d_var 8) (da_cons (d_var 13) (da_nil)))⟩ (val_var rfl (by first | exact Or.inl rfl | exact Or.inr (Or.inl rfl) | exact Or.inr (Or.inr rfl))) (by rfl) (by rfl)) (by rfl) (by rfl) (by rfl) (by rfl) (by rfl) (by rfl) (by decide) (by decide)
theorem lk_13 (DX : DXs P w K mg base cs) (hT : PySem.W.tabIn K "_law_right" = some (c, Pt)) (tab : TabB base mg c Pt) (ok : Ok (X63 P w K mg base f c A outer s H) 11) : PS (X63 P w K mg base f c A outer s H) (lkSt 13) (tMore (X63 P w K mg base f c A outer s H) cs looksE 6 13) :=
  ps_more (m := 13) (by rfl) (.inl rfl) (by rfl) (by decide) (pe_ent (e := ⟨[sVar 8, sVar 12], rx_truth_spans, 1, sVar 12⟩) tab rfl (tb_mem hT) (tb_one hT) rfl ⟨lamS_by (show lamSB (defScope st__law_right) _ = true by decide +kernel), fun _ _ _ _ _ => rfl, fun A outer s H E fl cN hgu hr => pe_callXX DX.d_truth_spans (by decide) hr hgu (takes_of rfl rfl rfl rfl) (by rfl) (da_cons (d_var 8) (da_cons (d_var 12) (da_nil)))⟩ (val_var rfl (by first | exact Or.inl rfl | exact Or.inr (Or.inl rfl) | exact Or.inr (Or.inr rfl))) (by rfl) (by rfl)) (by rfl) (by rfl) (by rfl) (by rfl) (by rfl) (by rfl) (by decide) (by decide)
theorem lk_14 (DX : DXs P w K mg base cs) (hT : PySem.W.tabIn K "_law_right" = some (c, Pt)) (tab : TabB base mg c Pt) (ok : Ok (X63 P w K mg base f c A outer s H) 11) : PS (X63 P w K mg base f c A outer s H) (lkSt 14) (tMore (X63 P w K mg base f c A outer s H) cs looksE 6 14) :=
  ps_more (m := 14) (by rfl) (.inl rfl) (by rfl) (by decide) (pe_ent (e := ⟨[sVar 8, sVar 12], rx_surely_right, 1, sVar 12⟩) tab rfl (tb_mem hT) (tb_one hT) rfl ⟨lamS_by (show lamSB (defScope st__law_right) _ = true by decide +kernel), fun _ _ _ _ _ => rfl, fun A outer s H E fl cN hgu hr => pe_callXX DX.d_surely_right (by decide) hr hgu (takes_of rfl rfl rfl rfl) (by rfl) (da_cons (d_var 8) (da_cons (d_var 12) (da_nil)))⟩ (val_var rfl (by first | exact Or.inl rfl | exact Or.inr (Or.inl rfl) | exact Or.inr (Or.inr rfl))) (by rfl) (by rfl)) (by rfl) (by rfl) (by rfl) (by rfl) (by rfl) (by rfl) (by decide) (by decide)
theorem lk_15 (DX : DXs P w K mg base cs) (hT : PySem.W.tabIn K "_law_right" = some (c, Pt)) (tab : TabB base mg c Pt) (ok : Ok (X63 P w K mg base f c A outer s H) 11) : PS (X63 P w K mg base f c A outer s H) (lkSt 15) (tMore (X63 P w K mg base f c A outer s H) cs looksE 6 15) :=
  ps_more (m := 15) (by rfl) (.inl rfl) (by rfl) (by decide) (pe_ent (e := ⟨[sVar 8, sVar 12], rx_surely_wrong, 1, sVar 12⟩) tab rfl (tb_mem hT) (tb_one hT) rfl ⟨lamS_by (show lamSB (defScope st__law_right) _ = true by decide +kernel), fun _ _ _ _ _ => rfl, fun A outer s H E fl cN hgu hr => pe_callXX DX.d_surely_wrong (by decide) hr hgu (takes_of rfl rfl rfl rfl) (by rfl) (da_cons (d_var 8) (da_cons (d_var 12) (da_nil)))⟩ (val_var rfl (by first | exact Or.inl rfl | exact Or.inr (Or.inl rfl) | exact Or.inr (Or.inr rfl))) (by rfl) (by rfl)) (by rfl) (by rfl) (by rfl) (by rfl) (by rfl) (by rfl) (by decide) (by decide)
theorem lk_16 (DX : DXs P w K mg base cs) (hT : PySem.W.tabIn K "_law_right" = some (c, Pt)) (tab : TabB base mg c Pt) (ok : Ok (X63 P w K mg base f c A outer s H) 11) : PS (X63 P w K mg base f c A outer s H) (lkSt 16) (tMore (X63 P w K mg base f c A outer s H) cs looksE 6 16) :=
  ps_more (m := 16) (by rfl) (.inl rfl) (by rfl) (by decide) (pe_ent (e := ⟨[sVar 8, sVar 12], rx_trimmed, 1, sVar 12⟩) tab rfl (tb_mem hT) (tb_one hT) rfl ⟨lamS_by (show lamSB (defScope st__law_right) _ = true by decide +kernel), fun _ _ _ _ _ => rfl, fun A outer s H E fl cN hgu hr => pe_callXX DX.d_trimmed (by decide) hr hgu (takes_of rfl rfl rfl rfl) (by rfl) (da_cons (d_var 8) (da_cons (d_var 12) (da_nil)))⟩ (val_var rfl (by first | exact Or.inl rfl | exact Or.inr (Or.inl rfl) | exact Or.inr (Or.inr rfl))) (by rfl) (by rfl)) (by rfl) (by rfl) (by rfl) (by rfl) (by rfl) (by rfl) (by decide) (by decide)
theorem lk_17 (DX : DXs P w K mg base cs) (hT : PySem.W.tabIn K "_law_right" = some (c, Pt)) (tab : TabB base mg c Pt) (ok : Ok (X63 P w K mg base f c A outer s H) 11) : PS (X63 P w K mg base f c A outer s H) (lkSt 17) (tMore (X63 P w K mg base f c A outer s H) cs looksE 6 17) :=
  ps_more (m := 17) (by rfl) (.inl rfl) (by rfl) (by decide) (pe_ent (e := ⟨[sVar 8, sVar 12], rx_hull, 1, sVar 12⟩) tab rfl (tb_mem hT) (tb_one hT) rfl ⟨lamS_by (show lamSB (defScope st__law_right) _ = true by decide +kernel), fun _ _ _ _ _ => rfl, fun A outer s H E fl cN hgu hr => pe_callXX DX.d_hull (by decide) hr hgu (takes_of rfl rfl rfl rfl) (by rfl) (da_cons (d_var 8) (da_cons (d_var 12) (da_nil)))⟩ (val_var rfl (by first | exact Or.inl rfl | exact Or.inr (Or.inl rfl) | exact Or.inr (Or.inr rfl))) (by rfl) (by rfl)) (by rfl) (by rfl) (by rfl) (by rfl) (by rfl) (by rfl) (by decide) (by decide)
theorem lk_18 (DX : DXs P w K mg base cs) (hT : PySem.W.tabIn K "_law_right" = some (c, Pt)) (tab : TabB base mg c Pt) (ok : Ok (X63 P w K mg base f c A outer s H) 11) : PS (X63 P w K mg base f c A outer s H) (lkSt 18) (tMore (X63 P w K mg base f c A outer s H) cs looksE 6 18) :=
  ps_more (m := 18) (by rfl) (.inl rfl) (by rfl) (by decide) (pe_ent (e := ⟨[sVar 8, sVar 12, sVar 10], rx_pulled, 1, sVar 12⟩) tab rfl (tb_mem hT) (tb_one hT) rfl ⟨lamS_by (show lamSB (defScope st__law_right) _ = true by decide +kernel), fun _ _ _ _ _ => rfl, fun A outer s H E fl cN hgu hr => pe_callXX DX.d_pulled (by decide) hr hgu (takes_of rfl rfl rfl rfl) (by rfl) (da_cons (d_var 8) (da_cons (d_var 12) (da_cons (d_var 10) (da_nil))))⟩ (val_var rfl (by first | exact Or.inl rfl | exact Or.inr (Or.inl rfl) | exact Or.inr (Or.inr rfl))) (by rfl) (by rfl)) (by rfl) (by rfl) (by rfl) (by rfl) (by rfl) (by rfl) (by decide) (by decide)
theorem lk_19 (DX : DXs P w K mg base cs) (hT : PySem.W.tabIn K "_law_right" = some (c, Pt)) (tab : TabB base mg c Pt) (ok : Ok (X63 P w K mg base f c A outer s H) 11) : PS (X63 P w K mg base f c A outer s H) (lkSt 19) (tMore (X63 P w K mg base f c A outer s H) cs looksE 6 19) :=
  ps_more (m := 19) (by rfl) (.inl rfl) (by rfl) (by decide) (pe_ent (e := ⟨[sVar 8, sC (.int 0), sVar 10], rx_pulled, 1, sVar 10⟩) tab rfl (tb_mem hT) (tb_one hT) rfl ⟨lamS_by (show lamSB (defScope st__law_right) _ = true by decide +kernel), fun _ _ _ _ _ => rfl, fun A outer s H E fl cN hgu hr => pe_callXX DX.d_pulled (by decide) hr hgu (takes_of rfl rfl rfl rfl) (by rfl) (da_cons (d_var 8) (da_cons (d_int) (da_cons (d_var 10) (da_nil))))⟩ (val_var rfl (by first | exact Or.inl rfl | exact Or.inr (Or.inl rfl) | exact Or.inr (Or.inr rfl))) (by rfl) (by rfl)) (by rfl) (by rfl) (by rfl) (by rfl) (by rfl) (by rfl) (by decide) (by decide)
theorem lk_20 (DX : DXs P w K mg base cs) (hT : PySem.W.tabIn K "_law_right" = some (c, Pt)) (tab : TabB base mg c Pt) (ok : Ok (X63 P w K mg base f c A outer s H) 11) : PS (X63 P w K mg base f c A outer s H) (lkSt 20) (tMore (X63 P w K mg base f c A outer s H) cs looksE 6 20) :=
  ps_more (m := 20) (by rfl) (.inl rfl) (by rfl) (by decide) (pe_ent (e := ⟨[sVar 8, sVar 4, sVar 10], rx_weighed, 2, sVar 4⟩) tab rfl (tb_mem hT) (tb_one hT) rfl ⟨lamS_by (show lamSB (defScope st__law_right) _ = true by decide +kernel), fun _ _ _ _ _ => rfl, fun A outer s H E fl cN hgu hr => pe_callXX DX.d_weighed (by decide) hr hgu (takes_of rfl rfl rfl rfl) (by rfl) (da_cons (d_var 8) (da_cons (d_var 4) (da_cons (d_var 10) (da_nil))))⟩ (val_var rfl (by first | exact Or.inl rfl | exact Or.inr (Or.inl rfl) | exact Or.inr (Or.inr rfl))) (by rfl) (by rfl)) (by rfl) (by rfl) (by rfl) (by rfl) (by rfl) (by rfl) (by decide) (by decide)
theorem lk_21 (DX : DXs P w K mg base cs) (hT : PySem.W.tabIn K "_law_right" = some (c, Pt)) (tab : TabB base mg c Pt) (ok : Ok (X63 P w K mg base f c A outer s H) 11) : PS (X63 P w K mg base f c A outer s H) (lkSt 21) (tMore (X63 P w K mg base f c A outer s H) cs looksE 6 21) :=
  ps_more (m := 21) (by rfl) (.inl rfl) (by rfl) (by decide) (pe_ent (e := ⟨[sVar 8, sVar 5, sVar 10], rx_weighed, 1, sVar 10⟩) tab rfl (tb_mem hT) (tb_one hT) rfl ⟨lamS_by (show lamSB (defScope st__law_right) _ = true by decide +kernel), fun _ _ _ _ _ => rfl, fun A outer s H E fl cN hgu hr => pe_callXX DX.d_weighed (by decide) hr hgu (takes_of rfl rfl rfl rfl) (by rfl) (da_cons (d_var 8) (da_cons (d_var 5) (da_cons (d_var 10) (da_nil))))⟩ (val_var rfl (by first | exact Or.inl rfl | exact Or.inr (Or.inl rfl) | exact Or.inr (Or.inr rfl))) (by rfl) (by rfl)) (by rfl) (by rfl) (by rfl) (by rfl) (by rfl) (by rfl) (by decide) (by decide)
theorem lk_22 (DX : DXs P w K mg base cs) (hT : PySem.W.tabIn K "_law_right" = some (c, Pt)) (tab : TabB base mg c Pt) (ok : Ok (X63 P w K mg base f c A outer s H) 11) : PS (X63 P w K mg base f c A outer s H) (lkSt 22) (tMore (X63 P w K mg base f c A outer s H) cs looksE 6 22) :=
  ps_more (m := 22) (by rfl) (.inl rfl) (by rfl) (by decide) (pe_ent (e := ⟨[sVar 8, sVar 5, sC (.int 0)], rx_weighed, 1, sC (.int 0)⟩) tab rfl (tb_mem hT) (tb_one hT) rfl ⟨lamS_by (show lamSB (defScope st__law_right) _ = true by decide +kernel), fun _ _ _ _ _ => rfl, fun A outer s H E fl cN hgu hr => pe_callXX DX.d_weighed (by decide) hr hgu (takes_of rfl rfl rfl rfl) (by rfl) (da_cons (d_var 8) (da_cons (d_var 5) (da_cons (d_int) (da_nil))))⟩ val_int (by rfl) (by rfl)) (by rfl) (by rfl) (by rfl) (by rfl) (by rfl) (by rfl) (by decide) (by decide)
theorem lk_23 (DX : DXs P w K mg base cs) (hT : PySem.W.tabIn K "_law_right" = some (c, Pt)) (tab : TabB base mg c Pt) (ok : Ok (X63 P w K mg base f c A outer s H) 11) : PS (X63 P w K mg base f c A outer s H) (lkSt 23) (tMore (X63 P w K mg base f c A outer s H) cs looksE 6 23) :=
  ps_more (m := 23) (by rfl) (.inl rfl) (by rfl) (by decide) (pe_ent (e := ⟨[sVar 8, sVar 5, sC (.int 1981)], rx_weighed, 1, sC (.int 1981)⟩) tab rfl (tb_mem hT) (tb_one hT) rfl ⟨lamS_by (show lamSB (defScope st__law_right) _ = true by decide +kernel), fun _ _ _ _ _ => rfl, fun A outer s H E fl cN hgu hr => pe_callXX DX.d_weighed (by decide) hr hgu (takes_of rfl rfl rfl rfl) (by rfl) (da_cons (d_var 8) (da_cons (d_var 5) (da_cons (d_int) (da_nil))))⟩ val_int (by rfl) (by rfl)) (by rfl) (by rfl) (by rfl) (by rfl) (by rfl) (by rfl) (by decide) (by decide)
theorem lk_24 (DX : DXs P w K mg base cs) (hT : PySem.W.tabIn K "_law_right" = some (c, Pt)) (tab : TabB base mg c Pt) (ok : Ok (X63 P w K mg base f c A outer s H) 11) : PS (X63 P w K mg base f c A outer s H) (lkSt 24) (tMore (X63 P w K mg base f c A outer s H) cs looksE 6 24) :=
  ps_more (m := 24) (by rfl) (.inl rfl) (by rfl) (by decide) (pe_ent (e := ⟨[sTup [sTup [sC (.int 0), sC (.int 1)], sTup [sC (.int 5), sC (.int 6)]], sC (.int 0)], rx_hull, 3, sC (.int 1)⟩) tab rfl (tb_mem hT) (tb_one hT) rfl ⟨lamS_by (show lamSB (defScope st__law_right) _ = true by decide +kernel), fun _ _ _ _ _ => rfl, fun A outer s H E fl cN hgu hr => pe_callXX DX.d_hull (by decide) hr hgu (takes_of rfl rfl rfl rfl) (by rfl) (da_cons (d_tup (da_cons (d_tup (da_cons (d_int) (da_cons (d_int) (da_nil)))) (da_cons (d_tup (da_cons (d_int) (da_cons (d_int) (da_nil)))) (da_nil)))) (da_cons (d_int) (da_nil)))⟩ val_int (by rfl) (by rfl)) (by rfl) (by rfl) (by rfl) (by rfl) (by rfl) (by rfl) (by decide) (by decide)
theorem lk_25 (DX : DXs P w K mg base cs) (hT : PySem.W.tabIn K "_law_right" = some (c, Pt)) (tab : TabB base mg c Pt) (ok : Ok (X63 P w K mg base f c A outer s H) 11) : PS (X63 P w K mg base f c A outer s H) (lkSt 25) (tMore (X63 P w K mg base f c A outer s H) cs looksE 6 25) :=
  ps_more (m := 25) (by rfl) (.inl rfl) (by rfl) (by decide) (pe_ent (e := ⟨[sTup [sTup [sC (.int 0), sC (.int 1)], sTup [sC (.int 5), sC (.int 6)], sTup [sC (.int 9), sC (.int 9)]], sC (.int 1)], rx_surely_wrong, 3, sC (.int 2)⟩) tab rfl (tb_mem hT) (tb_one hT) rfl ⟨lamS_by (show lamSB (defScope st__law_right) _ = true by decide +kernel), fun _ _ _ _ _ => rfl, fun A outer s H E fl cN hgu hr => pe_callXX DX.d_surely_wrong (by decide) hr hgu (takes_of rfl rfl rfl rfl) (by rfl) (da_cons (d_tup (da_cons (d_tup (da_cons (d_int) (da_cons (d_int) (da_nil)))) (da_cons (d_tup (da_cons (d_int) (da_cons (d_int) (da_nil)))) (da_cons (d_tup (da_cons (d_int) (da_cons (d_int) (da_nil)))) (da_nil))))) (da_cons (d_int) (da_nil)))⟩ val_int (by rfl) (by rfl)) (by rfl) (by rfl) (by rfl) (by rfl) (by rfl) (by rfl) (by decide) (by decide)
theorem lk_last (Tx : Txt mg) (F2 : L2.Fun K "_law_named" "_law_named" st__law_named g2 fd2) (hg2 : mg "_law_named" = some (.ref g2)) (Fg : L2.Fun K "_law_heard" "_law_heard" st__law_heard g fdg) (hg : mg "_law_heard" = some (.ref g)) (hO : mg "OrderError" = some (.ref OE)) (C4 : Cls4 K mg cs OE) (ok : Ok (X63 P w K mg base f c A outer s H) 11) :
    PS (X63 P w K mg base f c A outer s H) (lkSt 26) (tLast (X63 P w K mg base f c A outer s H) cs looksE 6) :=
  ps_last Tx F2 hg2 Fg hg hO C4 ok (by decide) (by rfl) (by rfl) (.inl rfl) (.inl rfl) (.inl rfl) (.inr rfl) (.inr rfl) (.inr rfl) (blkOk_by (by kernel_rfl))
theorem looksSt_eq : looksSt = [lkSt 0, lkSt 1, lkSt 2, lkSt 3, lkSt 4, lkSt 5, lkSt 6, lkSt 7, lkSt 8, lkSt 9, lkSt 10, lkSt 11, lkSt 12, lkSt 13, lkSt 14, lkSt 15, lkSt 16, lkSt 17, lkSt 18, lkSt 19, lkSt 20, lkSt 21, lkSt 22, lkSt 23, lkSt 24, lkSt 25, lkSt 26] := by kernel_rfl
end
end Xc

namespace Xc
open PySem PySem.Spec PyProof.Rows L2 LamX Sa
section
variable {P : Program} {w : World} {K : Fg} {mg : Str → Option Value} {base : Heap} {cs : Nat → Addr} {OE g g2 f c Pt : Addr} {fdg fd2 : FuncData} {A : Around} {outer : List Env} {s : Shared} {H : Hp}
theorem sLooks_inv {es : List LE} {i : Nat} {ρ : Rho} {G : SS} {σ : L2.St} {H Hb : Hp} {D : Ends} (w : WpS K ρ σ H Hb (sCons (sLooks es i) G ρ) D) : ρ[i]? = some .non ∧ es.all (fun e => leOk e ρ) = true ∧ WpS K ρ σ H Hb (G ρ) D := by
  simp only [sCons, sLooks] at w
  split at w
  · rename_i h
    split at w
    · rename_i q
      exact ⟨h, q, w⟩
    · exact w.elim
  · exact w.elim
theorem sp_looks (Tx : Txt mg) (F2 : L2.Fun K "_law_named" "_law_named" st__law_named g2 fd2) (hg2 : mg "_law_named" = some (.ref g2)) (Fg : L2.Fun K "_law_heard" "_law_heard" st__law_heard g fdg) (hg : mg "_law_heard" = some (.ref g)) (hO : mg "OrderError" = some (.ref OE)) (C4 : Cls4 K mg cs OE)
    (DX : DXs P w K mg base cs) (hT : PySem.W.tabIn K "_law_right" = some (c, Pt)) (tab : TabB base mg c Pt) (ok : Ok (X63 P w K mg base f c A outer s H) 11) {G : SS} (hG : DSs (X63 P w K mg base f c A outer s H) restSt G) :
    DSs (X63 P w K mg base f c A outer s H) (looksSt ++ restSt) (sCons (sLooks looksE 6) G) := by
  rw [looksSt_eq]
  refine PSs.imp (pss_cons (lk_0 DX hT tab ok) (pss_cons (lk_1 DX hT tab ok) (pss_cons (lk_2 DX hT tab ok) (pss_cons (lk_3 DX hT tab ok) (pss_cons (lk_4 DX hT tab ok) (pss_cons (lk_5 DX hT tab ok) (pss_cons (lk_6 DX hT tab ok) (pss_cons (lk_7 DX hT tab ok) (pss_cons (lk_8 DX hT tab ok) (pss_cons (lk_9 DX hT tab ok) (pss_cons (lk_10 DX hT tab ok) (pss_cons (lk_11 DX hT tab ok) (pss_cons (lk_12 DX hT tab ok) (pss_cons (lk_13 DX hT tab ok) (pss_cons (lk_14 DX hT tab ok) (pss_cons (lk_15 DX hT tab ok) (pss_cons (lk_16 DX hT tab ok) (pss_cons (lk_17 DX hT tab ok) (pss_cons (lk_18 DX hT tab ok) (pss_cons (lk_19 DX hT tab ok) (pss_cons (lk_20 DX hT tab ok) (pss_cons (lk_21 DX hT tab ok) (pss_cons (lk_22 DX hT tab ok) (pss_cons (lk_23 DX hT tab ok) (pss_cons (lk_24 DX hT tab ok) (pss_cons (lk_25 DX hT tab ok) (pss_cons (lk_last Tx F2 hg2 Fg hg hO C4 ok) hG))))))))))))))))))))))))))) fun D σ H1 ⟨ρ, Hb, rel, w⟩ => ?_
  obtain ⟨hi, all, w⟩ := sLooks_inv w
  refine ⟨ρ, Hb, rel, hi, all, fun σ1 H1' h1 => ?_⟩
  refine ⟨ρ, σ, H1, Hb, h1, all, fun σ2 H2' h2 => ?_⟩
  refine ⟨ρ, σ, H1, Hb, h2, all, fun σ3 H3' h3 => ?_⟩
  refine ⟨ρ, σ, H1, Hb, h3, all, fun σ4 H4' h4 => ?_⟩
  refine ⟨ρ, σ, H1, Hb, h4, all, fun σ5 H5' h5 => ?_⟩
  refine ⟨ρ, σ, H1, Hb, h5, all, fun σ6 H6' h6 => ?_⟩
  refine ⟨ρ, σ, H1, Hb, h6, all, fun σ7 H7' h7 => ?_⟩
  refine ⟨ρ, σ, H1, Hb, h7, all, fun σ8 H8' h8 => ?_⟩
  refine ⟨ρ, σ, H1, Hb, h8, all, fun σ9 H9' h9 => ?_⟩
  refine ⟨ρ, σ, H1, Hb, h9, all, fun σ10 H10' h10 => ?_⟩
  refine ⟨ρ, σ, H1, Hb, h10, all, fun σ11 H11' h11 => ?_⟩
  refine ⟨ρ, σ, H1, Hb, h11, all, fun σ12 H12' h12 => ?_⟩
  refine ⟨ρ, σ, H1, Hb, h12, all, fun σ13 H13' h13 => ?_⟩
  refine ⟨ρ, σ, H1, Hb, h13, all, fun σ14 H14' h14 => ?_⟩
  refine ⟨ρ, σ, H1, Hb, h14, all, fun σ15 H15' h15 => ?_⟩
  refine ⟨ρ, σ, H1, Hb, h15, all, fun σ16 H16' h16 => ?_⟩
  refine ⟨ρ, σ, H1, Hb, h16, all, fun σ17 H17' h17 => ?_⟩
  refine ⟨ρ, σ, H1, Hb, h17, all, fun σ18 H18' h18 => ?_⟩
  refine ⟨ρ, σ, H1, Hb, h18, all, fun σ19 H19' h19 => ?_⟩
  refine ⟨ρ, σ, H1, Hb, h19, all, fun σ20 H20' h20 => ?_⟩
  refine ⟨ρ, σ, H1, Hb, h20, all, fun σ21 H21' h21 => ?_⟩
  refine ⟨ρ, σ, H1, Hb, h21, all, fun σ22 H22' h22 => ?_⟩
  refine ⟨ρ, σ, H1, Hb, h22, all, fun σ23 H23' h23 => ?_⟩
  refine ⟨ρ, σ, H1, Hb, h23, all, fun σ24 H24' h24 => ?_⟩
  refine ⟨ρ, σ, H1, Hb, h24, all, fun σ25 H25' h25 => ?_⟩
  refine ⟨ρ, σ, H1, Hb, h25, all, fun σ26 H26' h26 => ?_⟩
  exact ⟨ρ, σ, H1, Hb, h26, all, fun σ' H' st pn => ⟨ρ, Hb, st.rel, w.after st pn⟩⟩
end
end Xc

namespace Sa
open PySem L2 PySem.Spec PyProof.Rows
/-! ## What the top has written -/
theorem all_ok {P : Program} {w : World} {K : Fg} {h : Heap} {mg : Str → Option Value} {fa f0 f1 f2 f3 f4 f5 f6 f7 f8 f9 f10 f11 f12 f13 f14 f15 f16 f17 f18 f19 f20 f21 f22 f23 f24 f25 f26 f27 f28 f29 : Addr} {od0 an0 od1 an1 od2 an2 od3 an3 od4 an4 od5 an5 od6 an6 od7 an7 od8 an8 od9 an9 od10 an10 od11 an11 od12 an12 od13 an13 od14 an14 od15 an15 od16 an16 od17 an17 od18 an18 od19 an19 od20 an20 od21 an21 od22 an22 od23 an23 od24 an24 od25 an25 od26 an26 od27 an27 od28 an28 od29 an29 : Option Addr} {sl0 sl1 sl2 sl3 sl4 sl5 sl6 sl7 sl8 sl9 sl10 sl11 sl12 sl13 sl14 sl15 sl16 sl17 sl18 sl19 sl20 sl21 sl22 sl23 sl24 sl25 sl26 sl27 sl28 sl29 : Array (Option Value)} {oc0 kV0 dc0 pm0 cd0 ct0 oc1 kV1 dc1 pm1 cd1 ct1 oc2 kV2 dc2 pm2 cd2 ct2 oc3 kV3 dc3 pm3 cd3 ct3 oc4 kV4 dc4 pm4 cd4 ct4 oc5 kV5 dc5 pm5 cd5 ct5 oc6 kV6 dc6 pm6 cd6 ct6 oc7 kV7 dc7 pm7 cd7 ct7 oc8 kV8 dc8 pm8 cd8 ct8 oc9 kV9 dc9 pm9 cd9 ct9 oc10 kV10 dc10 pm10 cd10 ct10 oc11 kV11 dc11 pm11 cd11 ct11 oc12 kV12 dc12 pm12 cd12 ct12 oc13 kV13 dc13 pm13 cd13 ct13 oc14 kV14 dc14 pm14 cd14 ct14 oc15 kV15 dc15 pm15 cd15 ct15 oc16 kV16 dc16 pm16 cd16 ct16 oc17 kV17 dc17 pm17 cd17 ct17 oc18 kV18 dc18 pm18 cd18 ct18 oc19 kV19 dc19 pm19 cd19 ct19 oc20 kV20 dc20 pm20 cd20 ct20 oc21 kV21 dc21 pm21 cd21 ct21 oc22 kV22 dc22 pm22 cd22 ct22 oc23 kV23 dc23 pm23 cd23 ct23 oc24 kV24 dc24 pm24 cd24 ct24 oc25 kV25 dc25 pm25 cd25 ct25 oc26 kV26 dc26 pm26 cd26 ct26 oc27 kV27 dc27 pm27 cd27 ct27 oc28 kV28 dc28 pm28 ct28 oc29 kV29 dc29 pm29 cd29 ct29 : Value} {t_MORE t_MOST_FAR t_MOST_SOURCES t_MOST_TRUTH t_MOST_WEIGHT t_SPANS : Tok} {g g2 OE Dc fI cc cda c Tt C0 N0 C1 N1 C2 N2 C3 N3 : Addr} {ocg kVg dcg pmg cdg ctg ocn kVn dcn pmn cdn ctn oI kVI dcI pmI ctI ccl ocx : Value} {odg ang odn ann odI anI cdd odx dd0 dd1 dd2 dd3 : Option Addr} {slg sln slI csl slx : Array (Option Value)} {vs : Array Value} {file : Str} {tf : Tok} {nm0 q0 nm1 q1 nm2 q2 nm3 q3 : Str} {bs0 bm0 sub0 bs1 bm1 sub1 bs2 bm2 sub2 bs3 bm3 sub3 : List Value} {sn0 sn1 sn2 sn3 : List Str} {ab0 ab1 ab2 ab3 : Bool} {col0 col1 col2 col3 : Option Bool} {y00 y01 y02 y03 y05 y10 y11 y12 y13 y15 y20 y21 y22 y23 y25 y30 y31 y32 y33 y35 : Option Value}
    (X : K.In h) (G : h.Ns mainGlobals mg) (hfa : mg "law" = some (.ref fa))
    (a0 : PySem.W.nsIn K mainGlobals "_law_cells" = some (some (.ref f0))) (l0 : K.lookup f0 = some ⟨oc0, od0, .func (PySem.W.fnOf "_law_cells" "_law_cells" (defArgs st__law_cells) (defBody st__law_cells) (defScope st__law_cells) .none kV0 dc0 pm0 an0 cd0 ct0), sl0⟩) (c0 : PySem.W.codeIn K cd0 "_law_cells" = true) (k0 : PySem.W.keepIn K (.ref f0) = true)
    (a1 : PySem.W.nsIn K mainGlobals "_law_pot" = some (some (.ref f1))) (l1 : K.lookup f1 = some ⟨oc1, od1, .func (PySem.W.fnOf "_law_pot" "_law_pot" (defArgs st__law_pot) (defBody st__law_pot) (defScope st__law_pot) .none kV1 dc1 pm1 an1 cd1 ct1), sl1⟩) (c1 : PySem.W.codeIn K cd1 "_law_pot" = true) (k1 : PySem.W.keepIn K (.ref f1) = true)
    (a2 : PySem.W.nsIn K mainGlobals "_law_take" = some (some (.ref f2))) (l2 : K.lookup f2 = some ⟨oc2, od2, .func (PySem.W.fnOf "_law_take" "_law_take" (defArgs st__law_take) (defBody st__law_take) (defScope st__law_take) .none kV2 dc2 pm2 an2 cd2 ct2), sl2⟩) (c2 : PySem.W.codeIn K cd2 "_law_take" = true) (k2 : PySem.W.keepIn K (.ref f2) = true)
    (a3 : PySem.W.nsIn K mainGlobals "_law_of" = some (some (.ref f3))) (l3 : K.lookup f3 = some ⟨oc3, od3, .func (PySem.W.fnOf "_law_of" "_law_of" (defArgs st__law_of) (defBody st__law_of) (defScope st__law_of) .none kV3 dc3 pm3 an3 cd3 ct3), sl3⟩) (c3 : PySem.W.codeIn K cd3 "_law_of" = true) (k3 : PySem.W.keepIn K (.ref f3) = true)
    (a4 : PySem.W.nsIn K mainGlobals "_law_sources" = some (some (.ref f4))) (l4 : K.lookup f4 = some ⟨oc4, od4, .func (PySem.W.fnOf "_law_sources" "_law_sources" (defArgs st__law_sources) (defBody st__law_sources) (defScope st__law_sources) .none kV4 dc4 pm4 an4 cd4 ct4), sl4⟩) (c4 : PySem.W.codeIn K cd4 "_law_sources" = true) (k4 : PySem.W.keepIn K (.ref f4) = true)
    (a5 : PySem.W.nsIn K mainGlobals "is_integer" = some (some (.ref f5))) (l5 : K.lookup f5 = some ⟨oc5, od5, .func (PySem.W.fnOf "is_integer" "is_integer" (defArgs st_is_integer) (defBody st_is_integer) (defScope st_is_integer) .none kV5 dc5 pm5 an5 cd5 ct5), sl5⟩) (c5 : PySem.W.codeIn K cd5 "is_integer" = true) (k5 : PySem.W.keepIn K (.ref f5) = true)
    (a6 : PySem.W.nsIn K mainGlobals "is_between" = some (some (.ref f6))) (l6 : K.lookup f6 = some ⟨oc6, od6, .func (PySem.W.fnOf "is_between" "is_between" (defArgs st_is_between) (defBody st_is_between) (defScope st_is_between) .none kV6 dc6 pm6 an6 cd6 ct6), sl6⟩) (c6 : PySem.W.codeIn K cd6 "is_between" = true) (k6 : PySem.W.keepIn K (.ref f6) = true)
    (a7 : PySem.W.nsIn K mainGlobals "is_source" = some (some (.ref f7))) (l7 : K.lookup f7 = some ⟨oc7, od7, .func (PySem.W.fnOf "is_source" "is_source" (defArgs st_is_source) (defBody st_is_source) (defScope st_is_source) .none kV7 dc7 pm7 an7 cd7 ct7), sl7⟩) (c7 : PySem.W.codeIn K cd7 "is_source" = true) (k7 : PySem.W.keepIn K (.ref f7) = true)
    (a8 : PySem.W.nsIn K mainGlobals "check_sources" = some (some (.ref f8))) (l8 : K.lookup f8 = some ⟨oc8, od8, .func (PySem.W.fnOf "check_sources" "check_sources" (defArgs st_check_sources) (defBody st_check_sources) (defScope st_check_sources) .none kV8 dc8 pm8 an8 cd8 ct8), sl8⟩) (c8 : PySem.W.codeIn K cd8 "check_sources" = true) (k8 : PySem.W.keepIn K (.ref f8) = true)
    (a9 : PySem.W.nsIn K mainGlobals "having" = some (some (.ref f9))) (l9 : K.lookup f9 = some ⟨oc9, od9, .func (PySem.W.fnOf "having" "having" (defArgs st_having) (defBody st_having) (defScope st_having) .none kV9 dc9 pm9 an9 cd9 ct9), sl9⟩) (c9 : PySem.W.codeIn K cd9 "having" = true) (k9 : PySem.W.keepIn K (.ref f9) = true)
    (a10 : PySem.W.nsIn K mainGlobals "have" = some (some (.ref f10))) (l10 : K.lookup f10 = some ⟨oc10, od10, .func (PySem.W.fnOf "have" "have" (defArgs st_have) (defBody st_have) (defScope st_have) .none kV10 dc10 pm10 an10 cd10 ct10), sl10⟩) (c10 : PySem.W.codeIn K cd10 "have" = true) (k10 : PySem.W.keepIn K (.ref f10) = true)
    (a11 : PySem.W.nsIn K mainGlobals "pieces_of" = some (some (.ref f11))) (l11 : K.lookup f11 = some ⟨oc11, od11, .func (PySem.W.fnOf "pieces_of" "pieces_of" (defArgs st_pieces_of) (defBody st_pieces_of) (defScope st_pieces_of) .none kV11 dc11 pm11 an11 cd11 ct11), sl11⟩) (c11 : PySem.W.codeIn K cd11 "pieces_of" = true) (k11 : PySem.W.keepIn K (.ref f11) = true)
    (a12 : PySem.W.nsIn K mainGlobals "most_agreed" = some (some (.ref f12))) (l12 : K.lookup f12 = some ⟨oc12, od12, .func (PySem.W.fnOf "most_agreed" "most_agreed" (defArgs st_most_agreed) (defBody st_most_agreed) (defScope st_most_agreed) .none kV12 dc12 pm12 an12 cd12 ct12), sl12⟩) (c12 : PySem.W.codeIn K cd12 "most_agreed" = true) (k12 : PySem.W.keepIn K (.ref f12) = true)
    (a13 : PySem.W.nsIn K mainGlobals "joined" = some (some (.ref f13))) (l13 : K.lookup f13 = some ⟨oc13, od13, .func (PySem.W.fnOf "joined" "joined" (defArgs st_joined) (defBody st_joined) (defScope st_joined) .none kV13 dc13 pm13 an13 cd13 ct13), sl13⟩) (c13 : PySem.W.codeIn K cd13 "joined" = true) (k13 : PySem.W.keepIn K (.ref f13) = true)
    (a14 : PySem.W.nsIn K mainGlobals "told_agreed" = some (some (.ref f14))) (l14 : K.lookup f14 = some ⟨oc14, od14, .func (PySem.W.fnOf "told_agreed" "told_agreed" (defArgs st_told_agreed) (defBody st_told_agreed) (defScope st_told_agreed) .none kV14 dc14 pm14 an14 cd14 ct14), sl14⟩) (c14 : PySem.W.codeIn K cd14 "told_agreed" = true) (k14 : PySem.W.keepIn K (.ref f14) = true)
    (a15 : PySem.W.nsIn K mainGlobals "best_agreed" = some (some (.ref f15))) (l15 : K.lookup f15 = some ⟨oc15, od15, .func (PySem.W.fnOf "best_agreed" "best_agreed" (defArgs st_best_agreed) (defBody st_best_agreed) (defScope st_best_agreed) .none kV15 dc15 pm15 an15 cd15 ct15), sl15⟩) (c15 : PySem.W.codeIn K cd15 "best_agreed" = true) (k15 : PySem.W.keepIn K (.ref f15) = true)
    (a16 : PySem.W.nsIn K mainGlobals "check_wrong" = some (some (.ref f16))) (l16 : K.lookup f16 = some ⟨oc16, od16, .func (PySem.W.fnOf "check_wrong" "check_wrong" (defArgs st_check_wrong) (defBody st_check_wrong) (defScope st_check_wrong) .none kV16 dc16 pm16 an16 cd16 ct16), sl16⟩) (c16 : PySem.W.codeIn K cd16 "check_wrong" = true) (k16 : PySem.W.keepIn K (.ref f16) = true)
    (a17 : PySem.W.nsIn K mainGlobals "told_could" = some (some (.ref f17))) (l17 : K.lookup f17 = some ⟨oc17, od17, .func (PySem.W.fnOf "told_could" "told_could" (defArgs st_told_could) (defBody st_told_could) (defScope st_told_could) .none kV17 dc17 pm17 an17 cd17 ct17), sl17⟩) (c17 : PySem.W.codeIn K cd17 "told_could" = true) (k17 : PySem.W.keepIn K (.ref f17) = true)
    (a18 : PySem.W.nsIn K mainGlobals "truth_spans" = some (some (.ref f18))) (l18 : K.lookup f18 = some ⟨oc18, od18, .func (PySem.W.fnOf "truth_spans" "truth_spans" (defArgs st_truth_spans) (defBody st_truth_spans) (defScope st_truth_spans) .none kV18 dc18 pm18 an18 cd18 ct18), sl18⟩) (c18 : PySem.W.codeIn K cd18 "truth_spans" = true) (k18 : PySem.W.keepIn K (.ref f18) = true)
    (a19 : PySem.W.nsIn K mainGlobals "spans_if" = some (some (.ref f19))) (l19 : K.lookup f19 = some ⟨oc19, od19, .func (PySem.W.fnOf "spans_if" "spans_if" (defArgs st_spans_if) (defBody st_spans_if) (defScope st_spans_if) .none kV19 dc19 pm19 an19 cd19 ct19), sl19⟩) (c19 : PySem.W.codeIn K cd19 "spans_if" = true) (k19 : PySem.W.keepIn K (.ref f19) = true)
    (a20 : PySem.W.nsIn K mainGlobals "hull" = some (some (.ref f20))) (l20 : K.lookup f20 = some ⟨oc20, od20, .func (PySem.W.fnOf "hull" "hull" (defArgs st_hull) (defBody st_hull) (defScope st_hull) .none kV20 dc20 pm20 an20 cd20 ct20), sl20⟩) (c20 : PySem.W.codeIn K cd20 "hull" = true) (k20 : PySem.W.keepIn K (.ref f20) = true)
    (a21 : PySem.W.nsIn K mainGlobals "trimmed" = some (some (.ref f21))) (l21 : K.lookup f21 = some ⟨oc21, od21, .func (PySem.W.fnOf "trimmed" "trimmed" (defArgs st_trimmed) (defBody st_trimmed) (defScope st_trimmed) .none kV21 dc21 pm21 an21 cd21 ct21), sl21⟩) (c21 : PySem.W.codeIn K cd21 "trimmed" = true) (k21 : PySem.W.keepIn K (.ref f21) = true)
    (a22 : PySem.W.nsIn K mainGlobals "surely_right" = some (some (.ref f22))) (l22 : K.lookup f22 = some ⟨oc22, od22, .func (PySem.W.fnOf "surely_right" "surely_right" (defArgs st_surely_right) (defBody st_surely_right) (defScope st_surely_right) .none kV22 dc22 pm22 an22 cd22 ct22), sl22⟩) (c22 : PySem.W.codeIn K cd22 "surely_right" = true) (k22 : PySem.W.keepIn K (.ref f22) = true)
    (a23 : PySem.W.nsIn K mainGlobals "surely_wrong" = some (some (.ref f23))) (l23 : K.lookup f23 = some ⟨oc23, od23, .func (PySem.W.fnOf "surely_wrong" "surely_wrong" (defArgs st_surely_wrong) (defBody st_surely_wrong) (defScope st_surely_wrong) .none kV23 dc23 pm23 an23 cd23 ct23), sl23⟩) (c23 : PySem.W.codeIn K cd23 "surely_wrong" = true) (k23 : PySem.W.keepIn K (.ref f23) = true)
    (a24 : PySem.W.nsIn K mainGlobals "pulled" = some (some (.ref f24))) (l24 : K.lookup f24 = some ⟨oc24, od24, .func (PySem.W.fnOf "pulled" "pulled" (defArgs st_pulled) (defBody st_pulled) (defScope st_pulled) .none kV24 dc24 pm24 an24 cd24 ct24), sl24⟩) (c24 : PySem.W.codeIn K cd24 "pulled" = true) (k24 : PySem.W.keepIn K (.ref f24) = true)
    (a25 : PySem.W.nsIn K mainGlobals "weighed" = some (some (.ref f25))) (l25 : K.lookup f25 = some ⟨oc25, od25, .func (PySem.W.fnOf "weighed" "weighed" (defArgs st_weighed) (defBody st_weighed) (defScope st_weighed) .none kV25 dc25 pm25 an25 cd25 ct25), sl25⟩) (c25 : PySem.W.codeIn K cd25 "weighed" = true) (k25 : PySem.W.keepIn K (.ref f25) = true)
    (a26 : PySem.W.nsIn K mainGlobals "agreed" = some (some (.ref f26))) (l26 : K.lookup f26 = some ⟨oc26, od26, .func (PySem.W.fnOf "agreed" "agreed" (defArgs st_agreed) (defBody st_agreed) (defScope st_agreed) .none kV26 dc26 pm26 an26 cd26 ct26), sl26⟩) (c26 : PySem.W.codeIn K cd26 "agreed" = true) (k26 : PySem.W.keepIn K (.ref f26) = true)
    (a27 : PySem.W.nsIn K mainGlobals "lots_right" = some (some (.ref f27))) (l27 : K.lookup f27 = some ⟨oc27, od27, .func (PySem.W.fnOf "lots_right" "lots_right" (defArgs st_lots_right) (defBody st_lots_right) (defScope st_lots_right) .none kV27 dc27 pm27 an27 cd27 ct27), sl27⟩) (c27 : PySem.W.codeIn K cd27 "lots_right" = true) (k27 : PySem.W.keepIn K (.ref f27) = true)
    (a28 : PySem.W.nsIn K mainGlobals "_law_right" = some (some (.ref f28))) (l28 : K.lookup f28 = some ⟨oc28, od28, .func (PySem.W.fnOf "_law_right" "_law_right" (defArgs st__law_right) (defBody st__law_right) (defScope st__law_right) .none kV28 dc28 pm28 an28 (.ref c) ct28), sl28⟩) (c28 : PySem.W.codeIn K (.ref c) "_law_right" = true) (k28 : PySem.W.keepIn K (.ref f28) = true)
    (a29 : PySem.W.nsIn K mainGlobals "law" = some (some (.ref f29))) (l29 : K.lookup f29 = some ⟨oc29, od29, .func (PySem.W.fnOf "law" "law" (defArgs st_law) (defBody st_law) (defScope st_law) .none kV29 dc29 pm29 an29 cd29 ct29), sl29⟩) (c29 : PySem.W.codeIn K cd29 "law" = true) (k29 : PySem.W.keepIn K (.ref f29) = true)
    (z_abs : PySem.W.nsIn K mainGlobals "abs" = some none)
    (z_all : PySem.W.nsIn K mainGlobals "all" = some none)
    (z_any : PySem.W.nsIn K mainGlobals "any" = some none)
    (z_bool : PySem.W.nsIn K mainGlobals "bool" = some none)
    (z_enumerate : PySem.W.nsIn K mainGlobals "enumerate" = some none)
    (z_int : PySem.W.nsIn K mainGlobals "int" = some none)
    (z_isinstance : PySem.W.nsIn K mainGlobals "isinstance" = some none)
    (z_len : PySem.W.nsIn K mainGlobals "len" = some none)
    (z_list : PySem.W.nsIn K mainGlobals "list" = some none)
    (z_max : PySem.W.nsIn K mainGlobals "max" = some none)
    (z_min : PySem.W.nsIn K mainGlobals "min" = some none)
    (z_range : PySem.W.nsIn K mainGlobals "range" = some none)
    (z_repr : PySem.W.nsIn K mainGlobals "repr" = some none)
    (z_set : PySem.W.nsIn K mainGlobals "set" = some none)
    (z_sorted : PySem.W.nsIn K mainGlobals "sorted" = some none)
    (z_sum : PySem.W.nsIn K mainGlobals "sum" = some none)
    (z_tuple : PySem.W.nsIn K mainGlobals "tuple" = some none)
    (z_zip : PySem.W.nsIn K mainGlobals "zip" = some none)
    (g_MORE : PySem.W.nsIn K mainGlobals "MORE" = some (some (.str "more" t_MORE)))
    (g_MOST_FAR : PySem.W.nsIn K mainGlobals "MOST_FAR" = some (some (.int 99999 t_MOST_FAR)))
    (g_MOST_SOURCES : PySem.W.nsIn K mainGlobals "MOST_SOURCES" = some (some (.int 20 t_MOST_SOURCES)))
    (g_MOST_TRUTH : PySem.W.nsIn K mainGlobals "MOST_TRUTH" = some (some (.int 199998 t_MOST_TRUTH)))
    (g_MOST_WEIGHT : PySem.W.nsIn K mainGlobals "MOST_WEIGHT" = some (some (.int 99 t_MOST_WEIGHT)))
    (g_SPANS : PySem.W.nsIn K mainGlobals "SPANS" = some (some (.str "spans" t_SPANS)))
    (eG : PySem.W.nsIn K mainGlobals "_law_heard" = some (some (.ref g)))
    (eLG : K.lookup g = some ⟨ocg, odg, .func (PySem.W.fnOf "_law_heard" "_law_heard" (defArgs Xc.st__law_heard) (defBody Xc.st__law_heard) (defScope Xc.st__law_heard) .none kVg dcg pmg ang cdg ctg), slg⟩)
    (eCG : PySem.W.codeIn K cdg "_law_heard" = true)
    (eKG : PySem.W.keepIn K (.ref g) = true)
    (eN : PySem.W.nsIn K mainGlobals "_law_named" = some (some (.ref g2)))
    (eLN : K.lookup g2 = some ⟨ocn, odn, .func (PySem.W.fnOf "_law_named" "_law_named" (defArgs Xc.st__law_named) (defBody Xc.st__law_named) (defScope Xc.st__law_named) .none kVn dcn pmn ann cdn ctn), sln⟩)
    (eCN : PySem.W.codeIn K cdn "_law_named" = true)
    (eKN : PySem.W.keepIn K (.ref g2) = true)
    (eO : PySem.W.nsIn K mainGlobals "OrderError" = some (some (.ref OE)))
    (t1 : PySem.W.tabIn K "_law_right" = some (c, Tt))
    (t2 : K.lookup Tt = none)
    (eM0 : PySem.W.nsIn K mainGlobals "BadSources" = some (some (.ref C0)))
    (eEm0 : PySem.W.exmOne K (.ref C0) (.ref OE) = some true)
    (x10 : PySem.W.findIn K (.ref C0) "__getattribute__" = some (some (.builtin "BaseException.__getattribute__")))
    (x20 : PySem.W.findIn K (.ref C0) "__getattr__" = some none)
    (x30 : PySem.W.subIn K (.ref C0) (.type "BaseException") = some true)
    (x40 : PySem.W.hasDictIn K C0 = true)
    (x50 : PySem.W.findIn K (.ref C0) "__class__" = some (some (.builtin "object.__class__")))
    (x80 : PySem.W.mroIn K C0 (.type "object") = some true)
    (x90 : PySem.W.findIn K (.ref C0) "value" = some none)
    (i10 : PySem.W.findIn K (.ref C0) "__init__" = some (some (.ref fI)))
    (eM1 : PySem.W.nsIn K mainGlobals "BadNumber" = some (some (.ref C1)))
    (eEm1 : PySem.W.exmOne K (.ref C1) (.ref OE) = some true)
    (x11 : PySem.W.findIn K (.ref C1) "__getattribute__" = some (some (.builtin "BaseException.__getattribute__")))
    (x21 : PySem.W.findIn K (.ref C1) "__getattr__" = some none)
    (x31 : PySem.W.subIn K (.ref C1) (.type "BaseException") = some true)
    (x41 : PySem.W.hasDictIn K C1 = true)
    (x51 : PySem.W.findIn K (.ref C1) "__class__" = some (some (.builtin "object.__class__")))
    (x81 : PySem.W.mroIn K C1 (.type "object") = some true)
    (x91 : PySem.W.findIn K (.ref C1) "value" = some none)
    (i11 : PySem.W.findIn K (.ref C1) "__init__" = some (some (.ref fI)))
    (eM2 : PySem.W.nsIn K mainGlobals "BadWeights" = some (some (.ref C2)))
    (eEm2 : PySem.W.exmOne K (.ref C2) (.ref OE) = some true)
    (x12 : PySem.W.findIn K (.ref C2) "__getattribute__" = some (some (.builtin "BaseException.__getattribute__")))
    (x22 : PySem.W.findIn K (.ref C2) "__getattr__" = some none)
    (x32 : PySem.W.subIn K (.ref C2) (.type "BaseException") = some true)
    (x42 : PySem.W.hasDictIn K C2 = true)
    (x52 : PySem.W.findIn K (.ref C2) "__class__" = some (some (.builtin "object.__class__")))
    (x82 : PySem.W.mroIn K C2 (.type "object") = some true)
    (x92 : PySem.W.findIn K (.ref C2) "value" = some none)
    (i12 : PySem.W.findIn K (.ref C2) "__init__" = some (some (.ref fI)))
    (eM3 : PySem.W.nsIn K mainGlobals "MoreWrong" = some (some (.ref C3)))
    (eEm3 : PySem.W.exmOne K (.ref C3) (.ref OE) = some true)
    (x13 : PySem.W.findIn K (.ref C3) "__getattribute__" = some (some (.builtin "BaseException.__getattribute__")))
    (x23 : PySem.W.findIn K (.ref C3) "__getattr__" = some none)
    (x33 : PySem.W.subIn K (.ref C3) (.type "BaseException") = some true)
    (x43 : PySem.W.hasDictIn K C3 = true)
    (x53 : PySem.W.findIn K (.ref C3) "__class__" = some (some (.builtin "object.__class__")))
    (x83 : PySem.W.mroIn K C3 (.type "object") = some true)
    (x93 : PySem.W.findIn K (.ref C3) "value" = some none)
    (i13 : PySem.W.findIn K (.ref C3) "__init__" = some (some (.ref fI)))
    (x6 : PySem.W.specialIn K (.builtin "object.__class__") "__get__" = some (some (.builtin "getset_descriptor.__get__")))
    (x7 : PySem.W.takesIn K (.builtin "object.__class__") = some true)
    (i2 : PySem.W.typeIn K (.ref fI) = some (.type "function"))
    (i3 : K.lookup fI = some ⟨oI, odI, .func (PySem.W.fnX "__init__" "OrderError.__init__" (Xc.initArgs ⟨4, 17, 4, 21⟩ ⟨4, 23, 4, 28⟩) (Xc.initBody ⟨5, 8, 5, 13⟩ ⟨5, 8, 5, 15⟩ ⟨5, 8, 5, 24⟩ ⟨5, 25, 5, 30⟩ ⟨5, 8, 5, 31⟩ ⟨5, 8, 5, 31⟩ ⟨6, 8, 6, 12⟩ ⟨6, 8, 6, 18⟩ ⟨6, 21, 6, 26⟩ ⟨6, 8, 6, 26⟩) Xc.initSc [("__class__", cc)] .none kVI dcI pmI anI (.ref cda) ctI), slI⟩)
    (i4 : PySem.W.codeIn K (.ref cda) "OrderError.__init__" = true)
    (i5 : K.lookup cda = some ⟨ccl, cdd, .fields vs, csl⟩)
    (i6 : vs[2]? = some (.str file tf))
    (i7 : ((P.main.file : Str) == file) = true)
    (i8 : (P.main.scope.names.lookup ("super" : Str)).isSome = false)
    (i9 : K.lookup cc = some ⟨ocx, odx, .cell (some (.ref Dc)), slx⟩)
    (j1 : (PySem.W.clsIn K Dc).isSome = true)
    (j3 : PySem.W.nsIn K mainGlobals "super" = some none)
    (j4 : PySem.W.nsIn K cStatics "thirdparty.any" = some none)
    (j20 : PySem.W.mroIn K C0 (.ref Dc) = some true)
    (j50 : PySem.W.ks_superIn K C0 Dc "__init__" = some (some (.builtin "ValueError.__init__")))
    (j60 : PySem.W.subIn K (.ref C0) (.type "ValueError") = some true)
    (j70 : K.lookup C0 = some (excClassObj nm0 q0 C0 N0 bs0 bm0 true sn0 sub0 ab0 col0 dd0 y00 y01 y02 y03 y05 "ValueError.__new__"))
    (j80 : PySem.HandSPX.refsVE bm0 = true)
    (j90 : PySem.W.findIn K (.ref C0) "__setattr__" = some (some (.builtin "object.__setattr__")))
    (j100 : PySem.W.typeIn K (.ref C0) = some (.type "type"))
    (j110 : PySem.W.keepIn K (.ref C0) = true)
    (kt00 : PySem.W.kitOne K (.ref C0) (.ref C0) = some true)
    (kt01 : PySem.W.kitOne K (.ref C0) (.ref C1) = some false)
    (kt02 : PySem.W.kitOne K (.ref C0) (.ref C2) = some false)
    (kt03 : PySem.W.kitOne K (.ref C0) (.ref C3) = some false)
    (j21 : PySem.W.mroIn K C1 (.ref Dc) = some true)
    (j51 : PySem.W.ks_superIn K C1 Dc "__init__" = some (some (.builtin "ValueError.__init__")))
    (j61 : PySem.W.subIn K (.ref C1) (.type "ValueError") = some true)
    (j71 : K.lookup C1 = some (excClassObj nm1 q1 C1 N1 bs1 bm1 true sn1 sub1 ab1 col1 dd1 y10 y11 y12 y13 y15 "ValueError.__new__"))
    (j81 : PySem.HandSPX.refsVE bm1 = true)
    (j91 : PySem.W.findIn K (.ref C1) "__setattr__" = some (some (.builtin "object.__setattr__")))
    (j101 : PySem.W.typeIn K (.ref C1) = some (.type "type"))
    (j111 : PySem.W.keepIn K (.ref C1) = true)
    (kt10 : PySem.W.kitOne K (.ref C1) (.ref C0) = some false)
    (kt11 : PySem.W.kitOne K (.ref C1) (.ref C1) = some true)
    (kt12 : PySem.W.kitOne K (.ref C1) (.ref C2) = some false)
    (kt13 : PySem.W.kitOne K (.ref C1) (.ref C3) = some false)
    (j22 : PySem.W.mroIn K C2 (.ref Dc) = some true)
    (j52 : PySem.W.ks_superIn K C2 Dc "__init__" = some (some (.builtin "ValueError.__init__")))
    (j62 : PySem.W.subIn K (.ref C2) (.type "ValueError") = some true)
    (j72 : K.lookup C2 = some (excClassObj nm2 q2 C2 N2 bs2 bm2 true sn2 sub2 ab2 col2 dd2 y20 y21 y22 y23 y25 "ValueError.__new__"))
    (j82 : PySem.HandSPX.refsVE bm2 = true)
    (j92 : PySem.W.findIn K (.ref C2) "__setattr__" = some (some (.builtin "object.__setattr__")))
    (j102 : PySem.W.typeIn K (.ref C2) = some (.type "type"))
    (j112 : PySem.W.keepIn K (.ref C2) = true)
    (kt20 : PySem.W.kitOne K (.ref C2) (.ref C0) = some false)
    (kt21 : PySem.W.kitOne K (.ref C2) (.ref C1) = some false)
    (kt22 : PySem.W.kitOne K (.ref C2) (.ref C2) = some true)
    (kt23 : PySem.W.kitOne K (.ref C2) (.ref C3) = some false)
    (j23 : PySem.W.mroIn K C3 (.ref Dc) = some true)
    (j53 : PySem.W.ks_superIn K C3 Dc "__init__" = some (some (.builtin "ValueError.__init__")))
    (j63 : PySem.W.subIn K (.ref C3) (.type "ValueError") = some true)
    (j73 : K.lookup C3 = some (excClassObj nm3 q3 C3 N3 bs3 bm3 true sn3 sub3 ab3 col3 dd3 y30 y31 y32 y33 y35 "ValueError.__new__"))
    (j83 : PySem.HandSPX.refsVE bm3 = true)
    (j93 : PySem.W.findIn K (.ref C3) "__setattr__" = some (some (.builtin "object.__setattr__")))
    (j103 : PySem.W.typeIn K (.ref C3) = some (.type "type"))
    (j113 : PySem.W.keepIn K (.ref C3) = true)
    (kt30 : PySem.W.kitOne K (.ref C3) (.ref C0) = some false)
    (kt31 : PySem.W.kitOne K (.ref C3) (.ref C1) = some false)
    (kt32 : PySem.W.kitOne K (.ref C3) (.ref C2) = some false)
    (kt33 : PySem.W.kitOne K (.ref C3) (.ref C3) = some true)
    : ∃ (fd : FuncData) (c T : Addr), PySem.W.tabIn K "_law_right" = some (c, T) ∧ K.lookup T = none ∧ (∀ (s : Shared) (v : Value), BindsTo s fd ⟨[v], []⟩ [("script", v)]) ∧ ∀ base : Heap, K.In base → base.Ns mainGlobals mg → LamX.TabB base mg c T → FnG P w K mg base 13 fa fd ["script"] (spI K fn_law) := by
  have e := hfa.symm.trans (PySem.W.mg_of X G a29)
  cases e
  have T : Txt mg := ⟨PySem.W.mg_none_of X G z_abs, PySem.W.mg_none_of X G z_all, PySem.W.mg_none_of X G z_any, PySem.W.mg_none_of X G z_bool, PySem.W.mg_none_of X G z_enumerate, PySem.W.mg_none_of X G z_int, PySem.W.mg_none_of X G z_isinstance, PySem.W.mg_none_of X G z_len, PySem.W.mg_none_of X G z_list, PySem.W.mg_none_of X G z_max, PySem.W.mg_none_of X G z_min, PySem.W.mg_none_of X G z_range, PySem.W.mg_none_of X G z_repr, PySem.W.mg_none_of X G z_set, PySem.W.mg_none_of X G z_sorted, PySem.W.mg_none_of X G z_sum, PySem.W.mg_none_of X G z_tuple, PySem.W.mg_none_of X G z_zip, ⟨_, PySem.W.mg_of X G g_MORE⟩, ⟨_, PySem.W.mg_of X G g_MOST_FAR⟩, ⟨_, PySem.W.mg_of X G g_MOST_SOURCES⟩, ⟨_, PySem.W.mg_of X G g_MOST_TRUTH⟩, ⟨_, PySem.W.mg_of X G g_MOST_WEIGHT⟩, ⟨_, PySem.W.mg_of X G g_SPANS⟩⟩
  refine ⟨PySem.W.fnOf "law" "law" (defArgs st_law) (defBody st_law) (defScope st_law) .none kV29 dc29 pm29 an29 cd29 ct29, c, Tt, t1, t2, fun s v => .of_eq rfl, fun base _ _ tabB => ?_⟩
  have G' := G
  obtain ⟨cs, hcs⟩ : ∃ cs : Nat → Addr, cs = fun n => match n with | 0 => C0 | 1 => C1 | 2 => C2 | _ => C3 := ⟨_, rfl⟩
  have d0 : cs 0 = C0 := congrFun hcs 0
  have d1 : cs 1 = C1 := congrFun hcs 1
  have d2 : cs 2 = C2 := congrFun hcs 2
  have d3 : cs 3 = C3 := congrFun hcs 3
  clear hcs
  subst d0 d1 d2 d3
  have e0 : Xc.ErrC P K (cs 0) Dc fI cc cda := ⟨⟨⟨_, _, _, _, _, _, _, _, _, _, _, _, _, _, _, .none, _, _, _, _, _, i3, fun _ => ⟨_, rfl⟩, fun _ => rfl, fun _ => rfl⟩, i4, ⟨_, _, _, _, _, _, i5, i6, i7⟩, i8, ⟨_, _, _, i9⟩, j1, j20, j3, j4, j50, j60, ⟨⟨nm0, q0, N0, bs0, bm0, sn0, sub0, ab0, col0, dd0, y00, y01, y02, y03, y05, j70, j80⟩, j90, x30, j100, j110⟩, x90⟩, i10, i2⟩
  have g0 := PySem.W.mg_of X G eM0
  have e1 : Xc.ErrC P K (cs 1) Dc fI cc cda := ⟨⟨⟨_, _, _, _, _, _, _, _, _, _, _, _, _, _, _, .none, _, _, _, _, _, i3, fun _ => ⟨_, rfl⟩, fun _ => rfl, fun _ => rfl⟩, i4, ⟨_, _, _, _, _, _, i5, i6, i7⟩, i8, ⟨_, _, _, i9⟩, j1, j21, j3, j4, j51, j61, ⟨⟨nm1, q1, N1, bs1, bm1, sn1, sub1, ab1, col1, dd1, y10, y11, y12, y13, y15, j71, j81⟩, j91, x31, j101, j111⟩, x91⟩, i11, i2⟩
  have g1 := PySem.W.mg_of X G eM1
  have e2 : Xc.ErrC P K (cs 2) Dc fI cc cda := ⟨⟨⟨_, _, _, _, _, _, _, _, _, _, _, _, _, _, _, .none, _, _, _, _, _, i3, fun _ => ⟨_, rfl⟩, fun _ => rfl, fun _ => rfl⟩, i4, ⟨_, _, _, _, _, _, i5, i6, i7⟩, i8, ⟨_, _, _, i9⟩, j1, j22, j3, j4, j52, j62, ⟨⟨nm2, q2, N2, bs2, bm2, sn2, sub2, ab2, col2, dd2, y20, y21, y22, y23, y25, j72, j82⟩, j92, x32, j102, j112⟩, x92⟩, i12, i2⟩
  have g2' := PySem.W.mg_of X G eM2
  have e3 : Xc.ErrC P K (cs 3) Dc fI cc cda := ⟨⟨⟨_, _, _, _, _, _, _, _, _, _, _, _, _, _, _, .none, _, _, _, _, _, i3, fun _ => ⟨_, rfl⟩, fun _ => rfl, fun _ => rfl⟩, i4, ⟨_, _, _, _, _, _, i5, i6, i7⟩, i8, ⟨_, _, _, i9⟩, j1, j23, j3, j4, j53, j63, ⟨⟨nm3, q3, N3, bs3, bm3, sn3, sub3, ab3, col3, dd3, y30, y31, y32, y33, y35, j73, j83⟩, j93, x33, j103, j113⟩, x93⟩, i13, i2⟩
  have g3 := PySem.W.mg_of X G eM3
  have D__law_cells := ok__law_cells (P := P) (w := w) (base := base) T  (fun_mk (st := st__law_cells) l0 c0 k0) (PySem.W.mg_of X G a0)
  have D__law_pot := ok__law_pot (P := P) (w := w) (base := base) T  (fun_mk (st := st__law_pot) l1 c1 k1) (PySem.W.mg_of X G a1)
  have D__law_take := ok__law_take (P := P) (w := w) (base := base) T  (fun_mk (st := st__law_take) l2 c2 k2) (PySem.W.mg_of X G a2)
  have D__law_of := ok__law_of (P := P) (w := w) (base := base) T D__law_take (fun_mk (st := st__law_of) l3 c3 k3) (PySem.W.mg_of X G a3)
  have D__law_sources := ok__law_sources (P := P) (w := w) (base := base) T D__law_take D__law_of (fun_mk (st := st__law_sources) l4 c4 k4) (PySem.W.mg_of X G a4)
  have D_is_integer := ok_is_integer (P := P) (w := w) (base := base) T  (fun_mk (st := st_is_integer) l5 c5 k5) (PySem.W.mg_of X G a5)
  have D_is_between := ok_is_between (P := P) (w := w) (base := base) T D_is_integer (fun_mk (st := st_is_between) l6 c6 k6) (PySem.W.mg_of X G a6)
  have D_is_source := ok_is_source (P := P) (w := w) (base := base) T D_is_between (fun_mk (st := st_is_source) l7 c7 k7) (PySem.W.mg_of X G a7)
  have D_check_sources := ok_check_sources (P := P) (w := w) (base := base) T D_is_source (fun_mk (st := st_check_sources) l8 c8 k8) (PySem.W.mg_of X G a8)
  have DX_check_sources := okX_check_sources (P := P) (w := w) (base := base) (cs := cs) T D_is_source  e0 g0 (fun_mk (st := st_check_sources) l8 c8 k8) (PySem.W.mg_of X G a8)
  have D_having := ok_having (P := P) (w := w) (base := base) T  (fun_mk (st := st_having) l9 c9 k9) (PySem.W.mg_of X G a9)
  have D_have := ok_have (P := P) (w := w) (base := base) T D_check_sources D_is_between D_having (fun_mk (st := st_have) l10 c10 k10) (PySem.W.mg_of X G a10)
  have DX_have := okX_have (P := P) (w := w) (base := base) (cs := cs) T D_is_between D_check_sources DX_check_sources e1 g1 (fun_mk (st := st_have) l10 c10 k10) (PySem.W.mg_of X G a10)
  have D_pieces_of := ok_pieces_of (P := P) (w := w) (base := base) T D_having (fun_mk (st := st_pieces_of) l11 c11 k11) (PySem.W.mg_of X G a11)
  have D_most_agreed := ok_most_agreed (P := P) (w := w) (base := base) T D_pieces_of (fun_mk (st := st_most_agreed) l12 c12 k12) (PySem.W.mg_of X G a12)
  have D_joined := ok_joined (P := P) (w := w) (base := base) T  (fun_mk (st := st_joined) l13 c13 k13) (PySem.W.mg_of X G a13)
  have D_told_agreed := ok_told_agreed (P := P) (w := w) (base := base) T D_joined D_pieces_of (fun_mk (st := st_told_agreed) l14 c14 k14) (PySem.W.mg_of X G a14)
  have D_best_agreed := ok_best_agreed (P := P) (w := w) (base := base) T D_check_sources D_most_agreed D_told_agreed (fun_mk (st := st_best_agreed) l15 c15 k15) (PySem.W.mg_of X G a15)
  have DX_best_agreed := okX_best_agreed (P := P) (w := w) (base := base) (cs := cs) T D_check_sources DX_check_sources  (fun_mk (st := st_best_agreed) l15 c15 k15) (PySem.W.mg_of X G a15)
  have D_check_wrong := ok_check_wrong (P := P) (w := w) (base := base) T D_check_sources D_is_between (fun_mk (st := st_check_wrong) l16 c16 k16) (PySem.W.mg_of X G a16)
  have DX_check_wrong := okX_check_wrong (P := P) (w := w) (base := base) (cs := cs) T D_is_between D_check_sources DX_check_sources e1 g1 (fun_mk (st := st_check_wrong) l16 c16 k16) (PySem.W.mg_of X G a16)
  have D_told_could := ok_told_could (P := P) (w := w) (base := base) T D_most_agreed D_told_agreed (fun_mk (st := st_told_could) l17 c17 k17) (PySem.W.mg_of X G a17)
  have D_truth_spans := ok_truth_spans (P := P) (w := w) (base := base) T D_check_wrong D_told_could (fun_mk (st := st_truth_spans) l18 c18 k18) (PySem.W.mg_of X G a18)
  have DX_truth_spans := okX_truth_spans (P := P) (w := w) (base := base) (cs := cs) T D_check_wrong DX_check_wrong  (fun_mk (st := st_truth_spans) l18 c18 k18) (PySem.W.mg_of X G a18)
  have D_spans_if := ok_spans_if (P := P) (w := w) (base := base) T D_check_wrong D_told_could (fun_mk (st := st_spans_if) l19 c19 k19) (PySem.W.mg_of X G a19)
  have DX_spans_if := okX_spans_if (P := P) (w := w) (base := base) (cs := cs) T D_check_wrong D_told_could DX_check_wrong e3 g3 (fun_mk (st := st_spans_if) l19 c19 k19) (PySem.W.mg_of X G a19)
  have D_hull := ok_hull (P := P) (w := w) (base := base) T D_spans_if (fun_mk (st := st_hull) l20 c20 k20) (PySem.W.mg_of X G a20)
  have DX_hull := okX_hull (P := P) (w := w) (base := base) (cs := cs) T D_spans_if DX_spans_if  (fun_mk (st := st_hull) l20 c20 k20) (PySem.W.mg_of X G a20)
  have D_trimmed := ok_trimmed (P := P) (w := w) (base := base) T D_check_wrong (fun_mk (st := st_trimmed) l21 c21 k21) (PySem.W.mg_of X G a21)
  have DX_trimmed := okX_trimmed (P := P) (w := w) (base := base) (cs := cs) T D_check_wrong DX_check_wrong  (fun_mk (st := st_trimmed) l21 c21 k21) (PySem.W.mg_of X G a21)
  have D_surely_right := ok_surely_right (P := P) (w := w) (base := base) T D_spans_if (fun_mk (st := st_surely_right) l22 c22 k22) (PySem.W.mg_of X G a22)
  have DX_surely_right := okX_surely_right (P := P) (w := w) (base := base) (cs := cs) T D_spans_if DX_spans_if  (fun_mk (st := st_surely_right) l22 c22 k22) (PySem.W.mg_of X G a22)
  have D_surely_wrong := ok_surely_wrong (P := P) (w := w) (base := base) T D_spans_if (fun_mk (st := st_surely_wrong) l23 c23 k23) (PySem.W.mg_of X G a23)
  have DX_surely_wrong := okX_surely_wrong (P := P) (w := w) (base := base) (cs := cs) T D_spans_if DX_spans_if  (fun_mk (st := st_surely_wrong) l23 c23 k23) (PySem.W.mg_of X G a23)
  have D_pulled := ok_pulled (P := P) (w := w) (base := base) T D_check_wrong D_told_agreed D_is_between (fun_mk (st := st_pulled) l24 c24 k24) (PySem.W.mg_of X G a24)
  have DX_pulled := okX_pulled (P := P) (w := w) (base := base) (cs := cs) T D_is_between D_check_wrong DX_check_wrong e1 g1 (fun_mk (st := st_pulled) l24 c24 k24) (PySem.W.mg_of X G a24)
  have D_weighed := ok_weighed (P := P) (w := w) (base := base) T D_check_sources D_pieces_of D_joined D_is_between (fun_mk (st := st_weighed) l25 c25 k25) (PySem.W.mg_of X G a25)
  have DX_weighed := okX_weighed (P := P) (w := w) (base := base) (cs := cs) T D_is_between D_check_sources DX_check_sources e1 g1 e2 g2' (fun_mk (st := st_weighed) l25 c25 k25) (PySem.W.mg_of X G a25)
  have D_agreed := ok_agreed (P := P) (w := w) (base := base) T D_check_sources D_told_agreed D_is_between (fun_mk (st := st_agreed) l26 c26 k26) (PySem.W.mg_of X G a26)
  have DX_agreed := okX_agreed (P := P) (w := w) (base := base) (cs := cs) T D_is_between D_check_sources DX_check_sources e1 g1 (fun_mk (st := st_agreed) l26 c26 k26) (PySem.W.mg_of X G a26)
  have D_lots_right := ok_lots_right (P := P) (w := w) (base := base) T D_check_sources D_most_agreed D_pieces_of (fun_mk (st := st_lots_right) l27 c27 k27) (PySem.W.mg_of X G a27)
  have DX_lots_right := okX_lots_right (P := P) (w := w) (base := base) (cs := cs) T D_check_sources DX_check_sources  (fun_mk (st := st_lots_right) l27 c27 k27) (PySem.W.mg_of X G a27)
  have DX : Xc.DXs P w K mg base cs := ⟨DX_have, DX_agreed, DX_best_agreed, DX_lots_right, DX_truth_spans, DX_surely_right, DX_surely_wrong, DX_trimmed, DX_hull, DX_pulled, DX_weighed⟩
  have C4 : Xc.Cls4 K mg cs OE := ⟨fun n hn => match n, hn with
    | 0, _ => eEm0
    | 1, _ => eEm1
    | 2, _ => eEm2
    | 3, _ => eEm3, fun n hn => match n, hn with
    | 0, _ => ⟨x10, x20, x30, x40, x50, x6, x7, x80⟩
    | 1, _ => ⟨x11, x21, x31, x41, x51, x6, x7, x81⟩
    | 2, _ => ⟨x12, x22, x32, x42, x52, x6, x7, x82⟩
    | 3, _ => ⟨x13, x23, x33, x43, x53, x6, x7, x83⟩, fun n hn => match n, hn with
    | 0, _ => ⟨x10, x20, x30, x40⟩
    | 1, _ => ⟨x11, x21, x31, x41⟩
    | 2, _ => ⟨x12, x22, x32, x42⟩
    | 3, _ => ⟨x13, x23, x33, x43⟩, fun n hn => match n, hn with
    | 0, _ => x90
    | 1, _ => x91
    | 2, _ => x92
    | 3, _ => x93, fun n m hn hm => match n, m, hn, hm with
    | 0, 0, _, _ => kt00
    | 0, 1, _, _ => kt01
    | 0, 2, _, _ => kt02
    | 0, 3, _, _ => kt03
    | 1, 0, _, _ => kt10
    | 1, 1, _, _ => kt11
    | 1, 2, _, _ => kt12
    | 1, 3, _, _ => kt13
    | 2, 0, _, _ => kt20
    | 2, 1, _, _ => kt21
    | 2, 2, _, _ => kt22
    | 2, 3, _, _ => kt23
    | 3, 0, _, _ => kt30
    | 3, 1, _, _ => kt31
    | 3, 2, _, _ => kt32
    | 3, 3, _, _ => kt33, g0, g1, g2', g3⟩
  have FN := fun_mk (st := Xc.st__law_named) eLN eCN eKN
  have FH := fun_mk (st := Xc.st__law_heard) eLG eCG eKG
  have D__law_right := ok__law_right (P := P) (w := w) (base := base) T D__law_sources D__law_of D_have D_best_agreed D_truth_spans D_hull D_trimmed D_surely_right D_surely_wrong D_pulled D_weighed (fun_mk (st := st__law_right) l28 c28 k28) (PySem.W.mg_of X G a28) (fun cdv A outer s H hcd ok G hG => by cases hcd; exact Xc.sp_looks T FN (PySem.W.mg_of X G' eN) FH (PySem.W.mg_of X G' eG) (PySem.W.mg_of X G' eO) C4 DX t1 tabB ok hG)
  exact ok_law T D__law_cells D__law_pot D__law_right (fun_mk (st := st_law) l29 c29 k29)
end Sa

namespace Sa
open PySem L2

/-! ## Each def at its values -/
abbrev vl (d : D) : Sl := .val d false
theorem enum_srcs {L : Src} {i : Nat} {ρ : Rho} {p : Bool} (h : ρ[i]? = some (.val (srcs L) p)) : sEnum (sVar i) ρ = .ok (L.zipIdx.map fun x => .tup [.int (x.2 : Int), srcD x.1]) ρ := by
  simp only [sEnum, sVar, h, Rs.bind_ok, frz, Rs.opt_some, srcs]
  rw [enumD_map]
theorem haveC (L : Src) (n : Int) (hl : L.length ≤ 100000) : sComp (sEnum (sVar 0)) (gT [gN 2, gT [gN 3, gN 4]]) (sChain nLe nLe (sVar 3) (sVar 1) (sVar 4)) (sVar 2) [2, 3, 4] [vl (srcs L), vl (.int n), .non, .non, .non] = .ok (.new (.lst ((hav L n).map .int))) [vl (srcs L), vl (.int n), .non, .non, .non] := by
    have := comp_ev (it := sEnum (sVar 0)) (t := gT [gN 2, gT [gN 3, gN 4]]) (c := sChain nLe nLe (sVar 3) (sVar 1) (sVar 4)) (e := sVar 2) (vs := [2, 3, 4]) (ρ := [vl (srcs L), vl (.int n), .non, .non, .non]) L.zipIdx (fun x => .tup [.int (x.2 : Int), srcD x.1])
      (fun x => hasB n x.1) (fun x => .int (x.2 : Int)) (enum_srcs rfl) (fun a ha => ?_) (by simpa using hl)
    · rw [this]; unfold hav; rw [List.map_map]; rfl
    · refine ⟨[vl (srcs L), vl (.int n), vl (.int a.2), vl (.int a.1.1), vl (.int a.1.2)], rfl, ?_, rfl, fun _ => ⟨_, _, _, rfl, rfl, rfl⟩⟩
      unfold hasB
      by_cases h1 : a.1.1 ≤ n
      · simp [sChain, sVar, Rs.bind, Rs.opt, views, view, nLe, NO.r, h1]
      · simp [sChain, sVar, Rs.bind, Rs.opt, views, view, nLe, NO.r, h1]
theorem e_having (L : Src) (n : Int) (hl : L.length ≤ 100000) : fn_having [vl (srcs L), vl (.int n)] = .ok (.new (.lst ((hav L n).map .int))) [vl (srcs L), vl (.int n)] := by
  have hb : body_having [vl (srcs L), vl (.int n), .non, .non, .non] = .ret (.new (.lst ((hav L n).map .int))) [vl (srcs L), vl (.int n), .non, .non, .non] := cons_ret (ret_ok (haveC L n hl))
  exact run_r hb rfl rfl rfl rfl rfl
theorem kit_ii : kitB "int" "int" = some true := by decide +kernel
theorem kit_ib : kitB "int" "bool" = some false := by decide +kernel
theorem kit_tt : kitB "tuple" "tuple" = some true := by decide +kernel
theorem e_is_integer (n : Int) : fn_is_integer [vl (.int n)] = .ok (.val (.bl true)) [vl (.int n)] := by
  refine run_r (r := .val (.bl true)) (ρ := [vl (.int n)]) (body := body_is_integer) (ρ0 := [vl (.int n)]) (cons_ret (ret_ok ?_)) rfl rfl rfl rfl rfl
  simp [sAnd, sOr, sNot, sIf, sChain, sNat, sVar, sC, sTup, sLst, evs, Rs.bind, Rs.opt, Rs.out, views, view, frz, frzs, NO.r, mv, oOpt, stSl, Sl.pinned, List.getElem?_cons_zero, List.getElem?_cons_succ, nIsi, D.ty, kit_ii, kit_ib]
theorem e_is_between (n a b : Int) : fn_is_between [vl (.int n), vl (.int a), vl (.int b)] = .ok (.val (.bl (decide (a ≤ n) && decide (n ≤ b)))) [vl (.int n), vl (.int a), vl (.int b)] := by
  refine run_r (r := .val (.bl (decide (a ≤ n) && decide (n ≤ b)))) (ρ := [vl (.int n), vl (.int a), vl (.int b)]) (body := body_is_between) (ρ0 := [vl (.int n), vl (.int a), vl (.int b)]) (cons_ret (ret_ok ?_)) rfl rfl rfl rfl rfl
  have h : sCall fn_is_integer [sVar 0] [vl (.int n), vl (.int a), vl (.int b)] = .ok (.val (.bl true)) [vl (.int n), vl (.int a), vl (.int b)] := call_v (e_is_integer n) rfl rfl rfl rfl rfl
  by_cases h1 : a ≤ n
  · simp [sAnd, sOr, sNot, sIf, sChain, sNat, sVar, sC, sTup, sLst, evs, Rs.bind, Rs.opt, Rs.out, views, view, frz, frzs, NO.r, mv, oOpt, stSl, Sl.pinned, List.getElem?_cons_zero, List.getElem?_cons_succ, h, nLe, h1]
  · simp [sAnd, sOr, sNot, sIf, sChain, sNat, sVar, sC, sTup, sLst, evs, Rs.bind, Rs.opt, Rs.out, views, view, frz, frzs, NO.r, mv, oOpt, stSl, Sl.pinned, List.getElem?_cons_zero, List.getElem?_cons_succ, h, nLe, h1]
structure Okay (L : Src) : Prop extends Good L where
  few : L.length ≤ 20
  bd : ∀ p ∈ L, -99999 ≤ p.1 ∧ p.2 ≤ 99999
theorem e_is_source (p : Int × Int) (h1 : -99999 ≤ p.1) (h2 : p.1 ≤ p.2) (h3 : p.2 ≤ 99999) : fn_is_source [vl (srcD p)] = .ok (.val (.bl true)) [vl (srcD p)] := by
  have hc : sComp (sSeq (sVar 0)) (gN 1) (sC (.bl true)) (sCall fn_is_between [sVar 1, sNat nSub [sC (.int 0), sC (.int 99999)], sC (.int 99999)]) [1] [vl (srcD p), .non] = .ok (.new (.lst ([p.1, p.2].map fun _ => .bl true))) [vl (srcD p), .non] := by
    refine comp_all [p.1, p.2] D.int (fun _ => .bl true) rfl (fun a ha => ?_) (by simp)
    have ha : -99999 ≤ a ∧ a ≤ 99999 := by
      rcases List.mem_cons.mp ha with e | e
      · omega
      · have := List.mem_singleton.mp e; omega
    refine ⟨[vl (srcD p), vl (.int a)], .val (.bl true), [vl (srcD p), vl (.int a)], [vl (srcD p), vl (.int a)], rfl, ?_, rfl, rfl, rfl⟩
    have h := e_is_between a (0 - 99999) 99999
    rw [decide_eq_true (show (0 : Int) - 99999 ≤ a by omega), decide_eq_true ha.2] at h
    exact call_v h rfl rfl rfl rfl rfl
  have e1 : sIfS (sOr (sNot (sNat (nIsi "tuple") [sVar 0])) (sNat nNeS [sNat nLen [sVar 0], sC (.int 2)])) (sCons (sRet (sC (.bl false))) sNil) sNil [vl (srcD p), .non] = .nx [vl (srcD p), .non] := by
    simp [sIfS, sAnd, sOr, sNot, sIf, sChain, sNat, sVar, sC, sTup, sLst, evs, Rs.bind, Rs.opt, Rs.out, views, view, frz, frzs, NO.r, mv, oOpt, stSl, Sl.pinned, List.getElem?_cons_zero, List.getElem?_cons_succ, nIsi, D.ty, srcD, kit_tt, nNeS, nNe, nLen, guard', D.shp, SeqAt.shaped, D.py, D.eqv, PyData.eqv, PyData.canLay0, PyData.depth, sNil]
  refine run_r (ρ := [vl (srcD p), .non]) (r := .val (.bl true)) (body := body_is_source) (ρ0 := [vl (srcD p), .non]) ((cons_nx e1).trans (cons_ret (ret_ok ?_))) rfl rfl rfl rfl rfl
  simp only [sAnd, sNat, evs, hc, Rs.bind_ok]
  simp [sAnd, sOr, sNot, sIf, sChain, sNat, sVar, sC, sTup, sLst, evs, Rs.bind, Rs.opt, Rs.out, views, view, frz, frzs, NO.r, mv, oOpt, stSl, Sl.pinned, List.getElem?_cons_zero, List.getElem?_cons_succ, nAll, D.bls?, nLe, nIdx, srcD, atI, ixN, h2]

theorem seq_srcs {L : Src} {i : Nat} {ρ : Rho} {p : Bool} (h : ρ[i]? = some (.val (srcs L) p)) : sSeq (sVar i) ρ = .ok (L.map srcD) ρ := by
  simp only [sSeq, sVar, h, Rs.bind_ok, frz, Rs.opt_some, srcs]
theorem e_check (L : Src) (g : Okay L) : fn_check_sources [vl (srcs L)] = .ok (.val .non) [vl (srcs L)] := by
  have hl : 0 < L.length := List.length_pos_iff.mpr g.ne
  have hf := g.few
  have e1 : sIfS (sOr (sNot (sNat (nIsi "tuple") [sVar 0])) (sNot (sChain nLt nLe (sC (.int 0)) (sNat nLen [sVar 0]) (sC (.int 20))))) (sCons ((fun _ => .bad)) sNil) sNil [vl (srcs L), .non] = .nx [vl (srcs L), .non] := by
    have hf' : decide ((L.length : Int) ≤ 20) = true := decide_eq_true (by omega)
    simp [sIfS, sAnd, sOr, sNot, sIf, sChain, sNat, sVar, sC, sTup, sLst, evs, Rs.bind, Rs.opt, Rs.out, views, view, frz, frzs, NO.r, mv, oOpt, stSl, Sl.pinned, List.getElem?_cons_zero, List.getElem?_cons_succ, nIsi, D.ty, srcs, kit_tt, nLen, nLt, nLe, sNil, hl, hf']
  have hc : sComp (sSeq (sVar 0)) (gN 1) (sC (.bl true)) (sCall fn_is_source [sVar 1]) [1] [vl (srcs L), .non] = .ok (.new (.lst (L.map fun _ => .bl true))) [vl (srcs L), .non] := by
    refine comp_all L srcD (fun _ => .bl true) (seq_srcs rfl) (fun a ha => ?_) (by omega)
    obtain ⟨b1, b2⟩ := g.bd a ha
    have h := e_is_source a b1 (g.le a ha) b2
    exact ⟨[vl (srcs L), vl (srcD a)], .val (.bl true), [vl (srcs L), vl (srcD a)], [vl (srcs L), vl (srcD a)], rfl, call_v h rfl rfl rfl rfl rfl, rfl, rfl, rfl⟩
  have e2 : sIfS (sNot (sNat nAll [sComp (sSeq (sVar 0)) (gN 1) (sC (.bl true)) (sCall fn_is_source [sVar 1]) [1]])) (sCons ((fun _ => .bad)) sNil) sNil [vl (srcs L), .non] = .nx [vl (srcs L), .non] := by
    have hb : D.bls? (L.map fun _ => D.bl true) = some (L.map fun _ => true) := by
      have := D.bls_map (L.map fun _ => true)
      rw [List.map_map] at this; exact this
    have ha : nAll [.lst (L.map fun _ => D.bl true)] = some (.val (.bl true)) := by
      simp only [nAll, hb, Option.map_some]
      congr 3
      simp
    exact (ifs_ff (not_ok (nat_ok (ev_one hc) rfl ha rfl))).trans rfl
  have hb : body_check_sources [vl (srcs L), .non] = .nx [vl (srcs L), .non] := (cons_nx e1).trans ((cons_nx e2).trans rfl)
  exact run_n hb rfl rfl rfl rfl
/-! rows -/
def rowD (r : Int × Int × List Int) : D := .tup [.int r.1, .int r.2.1, .lst (r.2.2.map .int)]
theorem zipD_map : ∀ (l m : List Int), zipD (l.map .int) (m.map .int) = (List.zip l m).map fun x => .tup [.int x.1, .int x.2]
  | [], _ => by simp [zipD]
  | _ :: _, [] => by simp [zipD]
  | a :: l, b :: m => by simp [zipD, zipD_map l m]
theorem setI_len : ∀ l : List Int, (setI l).length ≤ l.length := by
  have one : ∀ (x : Int) (l : List Int), (insI x l).length ≤ l.length + 1 := by
    intro x l
    induction l with
    | nil => simp [insI]
    | cons y l ih =>
      unfold insI
      split
      · simp
      · split
        · simp
        · simp; exact ih
  intro l
  induction l with
  | nil => exact Nat.le_refl _
  | cons x l ih => rw [setI]; have := one x (setI l); simp; omega
theorem edges_len (L : Src) : (edges L).length ≤ 2 * L.length := by
  have := setI_len (lows L ++ (highs L).map (· + 1))
  unfold edges
  simp [lows, highs] at this ⊢
  omega
theorem e_pieces (L : Src) (g : Okay L) : fn_pieces_of [vl (srcs L)] = .ok (.new (.lst ((rowsP L).map rowD))) [vl (srcs L)] := by
  have hf := g.few
  let ρ0 : Rho := [vl (srcs L), .non, .non, .non, .non, .non]
  have c1 : sComp (sSeq (sVar 0)) (gT [gN 4, gN 5]) (sC (.bl true)) (sVar 4) [4, 5] ρ0 = .ok (.new (.lst ((lows L).map .int))) ρ0 := by
    have := comp_all (it := sSeq (sVar 0)) (t := gT [gN 4, gN 5]) (e := sVar 4) (vs := [4, 5]) (ρ := ρ0) L srcD (fun p => .int p.1) (seq_srcs rfl)
      (fun a ha => ⟨[vl (srcs L), .non, .non, .non, vl (.int a.1), vl (.int a.2)], _, _, _, rfl, rfl, rfl, rfl, rfl⟩) (by omega)
    rw [this]; unfold lows; rw [List.map_map]; rfl
  have c2 : sComp (sSeq (sVar 0)) (gT [gN 4, gN 5]) (sC (.bl true)) (sNat nAdd [sVar 5, sC (.int 1)]) [4, 5] ρ0 = .ok (.new (.lst (((highs L).map (· + 1)).map .int))) ρ0 := by
    have := comp_all (it := sSeq (sVar 0)) (t := gT [gN 4, gN 5]) (e := sNat nAdd [sVar 5, sC (.int 1)]) (vs := [4, 5]) (ρ := ρ0) L srcD (fun p => .int (p.2 + 1)) (seq_srcs rfl)
      (fun a ha => ⟨[vl (srcs L), .non, .non, .non, vl (.int a.1), vl (.int a.2)], _, _, _, rfl, rfl, rfl, rfl, rfl⟩) (by omega)
    rw [this]; unfold highs; rw [List.map_map, List.map_map]; rfl
  have e1 : sAsg 1 (sNat nSortSet [sNat nAdd [sComp (sSeq (sVar 0)) (gT [gN 4, gN 5]) (sC (.bl true)) (sVar 4) [4, 5], sComp (sSeq (sVar 0)) (gT [gN 4, gN 5]) (sC (.bl true)) (sNat nAdd [sVar 5, sC (.int 1)]) [4, 5]]]) ρ0 = .nx [vl (srcs L), .own (.lst ((edges L).map .int)) false, .non, .non, .non, .non] := by
    have z : szOk (((lows L).map D.int).length + (((highs L).map (· + 1)).map D.int).length) = true := decide_eq_true (by simp [lows, highs]; omega)
    have z2 : decide ((lows L ++ (highs L).map (· + 1)).length ≤ 4000) = true := decide_eq_true (by simp [lows, highs]; omega)
    have z3 : D.ints? ((lows L).map D.int ++ ((highs L).map (· + 1)).map D.int) = some (lows L ++ (highs L).map (· + 1)) := by rw [← List.map_append]; exact D.ints_map _
    simp only [sAsg, sNat, evs, c1, c2, Rs.bind_ok, views, view, Option.bind_some, Rs.opt_some, nAdd, guard', z, if_true, NO.r, nSortSet, z3, z2, Rs.out, mv, oOpt_some]
    rfl
  let ρ1 : Rho := [vl (srcs L), .own (.lst ((edges L).map .int)) false, .non, .non, .non, .non]
  let ρ2 : Rho := [vl (srcs L), .val (.lst ((edges L).map .int)) false, .non, .non, .non, .non]
  have hz : sZip (sVar 1) (sSlc (sVar 1) (some (sC (.int 1))) none) ρ1 = .ok ((List.zip (edges L) (edges L).tail).map fun x => .tup [.int x.1, .int x.2]) ρ2 := by
    obtain ⟨e, E, q, _⟩ := edges_ex g.toGood
    have hc : cutD ((e :: E).map D.int) (some 1) none = E.map D.int := by
      unfold cutD
      have e1 : HT.sIx ((e :: E).map D.int).length 0 (some 1) = 1 := by
        have := HT.sIx_nat ((e :: E).map D.int).length 0 1
        rw [show ((1 : Nat) : Int) = 1 from rfl] at this
        rw [this]; simp
      rw [e1, HT.sIx_none]
      simp
      exact List.take_of_length_le (by simp)
    have h2 : sSlc (sVar 1) (some (sC (.int 1))) none ρ1 = .ok (.new (.lst ((edges L).tail.map .int))) ρ1 := by
      rw [q]
      show _ = Rs.ok (R.new (Ob.lst (E.map D.int))) ρ1
      rw [← hc, ← q]
      rfl
    have h3 : evs [sVar 1, sSlc (sVar 1) (some (sC (.int 1))) none] ρ1 = .ok [.own 1, .new (.lst ((edges L).tail.map .int))] ρ1 := ev_two rfl h2
    have h4 : frzs [.own 1, .new (.lst ((edges L).tail.map D.int))] ρ1 = some ([.lst ((edges L).map .int), .lst ((edges L).tail.map .int)], ρ2) := rfl
    simp only [sZip, h3, Rs.bind_ok, h4, Rs.opt_some, zipD_map]
  have c3 : sComp (sZip (sVar 1) (sSlc (sVar 1) (some (sC (.int 1))) none)) (gT [gN 2, gN 3]) (sC (.bl true)) (sTup [sVar 2, sNat nSub [sVar 3, sC (.int 1)], sCall fn_having [sVar 0, sVar 2]]) [2, 3] ρ1 = .ok (.new (.lst ((rowsP L).map rowD))) ρ2 := by
    have := comp_all (t := gT [gN 2, gN 3]) (e := sTup [sVar 2, sNat nSub [sVar 3, sC (.int 1)], sCall fn_having [sVar 0, sVar 2]]) (vs := [2, 3]) (List.zip (edges L) (edges L).tail) (fun x => .tup [.int x.1, .int x.2]) (fun x => rowD (x.1, x.2 - 1, hav L x.1)) hz (fun a ha => ?_) (by
        have := edges_len L
        rw [List.length_zip]; omega)
    · rw [this]; unfold rowsP; rw [List.map_map]; rfl
    · let ρ3 : Rho := [vl (srcs L), .val (.lst ((edges L).map .int)) false, vl (.int a.1), vl (.int a.2), .non, .non]
      have hc : sCall fn_having [sVar 0, sVar 2] ρ3 = .ok (.new (.lst ((hav L a.1).map .int))) ρ3 := call_v (e_having L a.1 (by omega)) rfl rfl rfl rfl rfl
      refine ⟨ρ3, .val (rowD (a.1, a.2 - 1, hav L a.1)), ρ3, ρ3, rfl, ?_, rfl, rfl, rfl⟩
      exact tup_ok (ev_cons rfl (ev_cons rfl (ev_one hc))) rfl
  have hb : body_pieces_of ρ0 = .ret (.new (.lst ((rowsP L).map rowD))) ρ2 := (cons_nx e1).trans (cons_ret (ret_ok c3))
  exact run_r hb rfl rfl rfl rfl rfl

/-! joined -/
theorem shp_ints : ∀ l : List Int, PyData.canLayAll0 (D.pys (l.map .int)) = true
  | [] => rfl
  | _ :: l => by simp only [List.map_cons, D.pys, D.py, PyData.canLayAll0, PyData.canLay0, Bool.true_and, shp_ints l]
theorem dep_ints : ∀ l : List Int, PyData.depthAll (D.pys (l.map .int)) = 0
  | [] => rfl
  | _ :: l => by simp only [List.map_cons, D.pys, D.py, PyData.depthAll, PyData.depth, dep_ints l]; rfl
theorem shp_srcs : ∀ l : Src, PyData.canLayAll0 (D.pys (l.map srcD)) = true
  | [] => rfl
  | p :: l => by
    simp only [List.map_cons, D.pys, PyData.canLayAll0, shp_srcs l, Bool.and_true]
    rfl
theorem dep_srcs : ∀ l : Src, PyData.depthAll (D.pys (l.map srcD)) ≤ 1
  | [] => by decide
  | p :: l => by
    have := dep_srcs l
    simp only [List.map_cons, D.pys, PyData.depthAll]
    have h : (srcD p).py.depth = 1 := rfl
    omega
theorem shp_lst (l : Src) : (D.lst (l.map srcD)).shp = true := by
  have := dep_srcs l
  simp only [D.shp, SeqAt.shaped, D.py, PyData.canLay0, shp_srcs, PyData.depth, Bool.true_and]
  exact decide_eq_true (by omega)
theorem shp_tup (l : Src) : (srcs l).shp = true := by
  have := dep_srcs l
  simp only [srcs, D.shp, SeqAt.shaped, D.py, PyData.canLay0, shp_srcs, PyData.depth, Bool.true_and]
  exact decide_eq_true (by omega)
theorem shp_int (i : Int) : (D.int i).shp = true := rfl
theorem eqv_int (i j : Int) : (D.int i).eqv (.int j) = decide (i = j) := by
  show (i == j) = _
  exact Bool.eq_iff_iff.mpr (by simp)
theorem eqv_nil (l : Src) : (D.lst (l.map srcD)).eqv (.lst []) = l.isEmpty := by
  cases l with
  | nil => rfl
  | cons p l => rfl
/-- the step of the loop; found stands in slot 1 -/
def jG (c fa fb : SE) : SS := sCons (sIfS (sAnd (sNat nNeS [sVar 1, sLst []]) (sNat nEqS [sNat nAdd [sNat nIdx [sNat nIdx [sVar 1, sNat nNeg [sC (.int 1)]], sC (.int 1)], sC (.int 1)], c])) (sCons (sSetIx 1 (sNat nNeg [sC (.int 1)]) (sTup [sNat nIdx [sNat nIdx [sVar 1, sNat nNeg [sC (.int 1)]], sC (.int 0)], fb])) (sNil)) (sCons (sExpr (sMut 1 mAppend [sTup [fa, fb]])) (sNil))) (sNil)
theorem atI_last {l : List D} {d : D} : atI (l ++ [d]) (-1) = some d := by
  have h : ixN (l ++ [d]).length (-1) = some l.length := by
    simp [ixN]
    omega
  simp only [atI, h]
  simp
theorem jG_ok (c fa fb : SE) (s0 : Sl) (tl : List Sl) (acc : Src) (x : Int × Int) (hl : acc.length ≤ 100000) (hc : c (s0 :: .own (.lst (acc.map srcD)) false :: tl) = .ok (.val (.int x.1)) (s0 :: .own (.lst (acc.map srcD)) false :: tl))
    (hfa : fa (s0 :: .own (.lst (acc.map srcD)) false :: tl) = .ok (.val (.int x.1)) (s0 :: .own (.lst (acc.map srcD)) false :: tl)) (hfb : fb (s0 :: .own (.lst (acc.map srcD)) false :: tl) = .ok (.val (.int x.2)) (s0 :: .own (.lst (acc.map srcD)) false :: tl)) :
    jG c fa fb (s0 :: .own (.lst (acc.map srcD)) false :: tl) = .nx (s0 :: .own (.lst ((jstep acc x).map srcD)) false :: tl) := by
  let ρ : Rho := (s0 :: .own (.lst (acc.map srcD)) false :: tl)
  have h1 : sNat nNeS [sVar 1, sLst []] ρ = .ok (.val (.bl (!acc.isEmpty))) ρ := by
    refine nat_ok (ds := [.lst (acc.map srcD), .lst []]) (o := .val (.bl (!acc.isEmpty))) (ev_two (r := .own 1) rfl rfl) rfl ?_ rfl
    rw [neS_l]
    have z : (D.lst []).shp = true := rfl
    simp only [nNe, shp_lst, eqv_nil, z]
    rfl
  have ap : sCons (sExpr (sMut 1 mAppend [sTup [fa, fb]])) sNil ρ = .nx (s0 :: .own (.lst ((acc ++ [x]).map srcD)) false :: tl) := by
    have hz : szOk (acc.map srcD).length = true := decide_eq_true (by simpa using hl)
    have := mut_ok' (i := 1) (m := mAppend) (ρ := ρ) (ds' := (acc ++ [x]).map srcD) (d := .non) (pn' := false) (ds := acc.map srcD) rfl (ev_one (tup_ok (ev_two hfa hfb) rfl)) rfl rfl (by
      simp only [mAppend, hz, if_true, List.map_append]; rfl)
    exact cons_nx (expr_ok this)
  cases hq : acc.getLast? with
  | none =>
    have e : acc = [] := List.getLast?_eq_none_iff.mp hq
    have h2 : sAnd (sNat nNeS [sVar 1, sLst []]) (sNat nEqS [sNat nAdd [sNat nIdx [sNat nIdx [sVar 1, sNat nNeg [sC (.int 1)]], sC (.int 1)], sC (.int 1)], c]) ρ = .ok (.val (.bl false)) ρ := and_ff (by rw [h1, e]; rfl)
    have hj : jstep acc x = acc ++ [x] := by rw [e]; rfl
    rw [hj]
    exact (cons_nx ((ifs_ff h2).trans ap)).trans rfl
  | some l =>
    obtain ⟨a0, rfl⟩ := List.getLast?_eq_some_iff.mp hq
    have hne : (!(a0 ++ [l]).isEmpty) = true := by simp
    rw [hne] at h1
    have hlast : sNat nIdx [sVar 1, sNat nNeg [sC (.int 1)]] ρ = .ok (.val (srcD l)) ρ := by
      refine nat_ok (ds := [.lst ((a0 ++ [l]).map srcD), .int (-1)]) (o := .val (srcD l)) (ev_two (r := .own 1) (q := .val (.int (-1))) rfl rfl) rfl ?_ rfl
      simp only [nIdx, List.map_append, List.map_cons, List.map_nil, atI_last]
      rfl
    have h3 : sNat nEqS [sNat nAdd [sNat nIdx [sNat nIdx [sVar 1, sNat nNeg [sC (.int 1)]], sC (.int 1)], sC (.int 1)], c] ρ = .ok (.val (.bl (decide (l.2 + 1 = x.1)))) ρ := by
      have k1 : sNat nIdx [sNat nIdx [sVar 1, sNat nNeg [sC (.int 1)]], sC (.int 1)] ρ = .ok (.val (.int l.2)) ρ := nat_ok (ev_two hlast rfl) rfl (o := .val (.int l.2)) rfl rfl
      have k2 : sNat nAdd [sNat nIdx [sNat nIdx [sVar 1, sNat nNeg [sC (.int 1)]], sC (.int 1)], sC (.int 1)] ρ = .ok (.val (.int (l.2 + 1))) ρ := nat_ok (ev_two k1 rfl) rfl (o := .val (.int (l.2 + 1))) rfl rfl
      refine nat_ok (ds := [.int (l.2 + 1), .int x.1]) (ev_two k2 hc) rfl (o := .val (.bl (decide (l.2 + 1 = x.1)))) (eqS_i _ _) rfl
    have h4 := and_tt (f := sNat nNeS [sVar 1, sLst []]) h1 h3
    by_cases q : l.2 + 1 = x.1
    · rw [decide_eq_true q] at h4
      have hj : jstep (a0 ++ [l]) x = a0 ++ [(l.1, x.2)] := by simp [jstep, q]
      rw [hj]
      refine (cons_nx ((ifs_tt h4).trans (cons_nx (ρ1 := (s0 :: .own (.lst ((a0 ++ [(l.1, x.2)]).map srcD)) false :: tl)) ?_))).trans rfl
      have k0 : sNat nIdx [sNat nIdx [sVar 1, sNat nNeg [sC (.int 1)]], sC (.int 0)] ρ = .ok (.val (.int l.1)) ρ := nat_ok (ev_two hlast rfl) rfl (o := .val (.int l.1)) rfl rfl
      have kt : sTup [sNat nIdx [sNat nIdx [sVar 1, sNat nNeg [sC (.int 1)]], sC (.int 0)], fb] ρ = .ok (.val (srcD (l.1, x.2))) ρ := tup_ok (ev_two k0 hfb) rfl
      have hi : ixN ((a0 ++ [l]).map srcD).length (-1) = some a0.length := by
        simp [ixN]
        omega
      have hs : ((a0 ++ [l]).map srcD).set a0.length (srcD (l.1, x.2)) = (a0 ++ [(l.1, x.2)]).map srcD := by
        rw [List.map_append, List.map_append, List.set_append_right _ _ (by simp)]; simp
      have := setIx_ok (i := 1) (fi := sNat nNeg [sC (.int 1)]) (k := -1) (pn := false) (pn' := false) (o := .lst ((a0 ++ [l]).map srcD)) (ds := (a0 ++ [l]).map srcD) kt rfl rfl rfl rfl hi
      rw [hs] at this
      exact this
    · rw [decide_eq_false q] at h4
      have hj : jstep (a0 ++ [l]) x = a0 ++ [l] ++ [x] := by simp [jstep, q]
      rw [hj]
      exact (cons_nx ((ifs_ff h4).trans ap)).trans rfl
theorem two_g {i j : Nat} {ρ ρ1 ρ2 : Rho} {a b : D} (h1 : gN i a ρ = some ρ1) (h2 : gN j b ρ1 = some ρ2) : gT [gN i, gN j] (.tup [a, b]) ρ = some ρ2 := by
  simp only [gT, gsT, h1, h2, Option.bind_some]
theorem gN_ok {i : Nat} {ρ : Rho} {s : Sl} {d : D} (h : ρ[i]? = some s) (hp : s.pinned = false) : gN i d ρ = some (ρ.set i (vl d)) := by
  simp only [gN, h, hp]
  rfl
/-- spans put together -/
theorem e_joined (xs : Src) (hl : xs.length ≤ 100000) : fn_joined [.own (.lst (xs.map srcD)) false] = .ok (.val (srcs (join xs))) [.val (.lst (xs.map srcD)) false] := by
  let S : Sl := .val (.lst (xs.map srcD)) true
  have hloop : ∃ ρ', forGo (gT [gN 2, gN 3]) (jG (sVar 2) (sVar 2) (sVar 3)) (xs.map srcD) [S, .own (.lst []) false, .non, .non] = .nx ρ' ∧ ∃ s2 s3, ρ' = [S, .own (.lst ((join xs).map srcD)) false, s2, s3] := by
    obtain ⟨ρ', e1, acc, s2, s3, e2, _, _, e3, _⟩ := for_ev (t := gT [gN 2, gN 3]) (F := jG (sVar 2) (sVar 2) (sVar 3)) srcD
      (fun rem ρ => ∃ (acc : Src) (s2 s3 : Sl), ρ = [S, .own (.lst (acc.map srcD)) false, s2, s3] ∧ s2.pinned = false ∧ s3.pinned = false ∧ rem.foldl jstep acc = join xs ∧ acc.length + rem.length ≤ 100000)
      (fun x L ρ ⟨acc, s2, s3, e, h2, h3, hj, hz⟩ => by
        subst e
        simp only [List.length_cons] at hz
        refine ⟨[S, .own (.lst (acc.map srcD)) false, vl (.int x.1), vl (.int x.2)], _, ?_, jG_ok (sVar 2) (sVar 2) (sVar 3) S [vl (.int x.1), vl (.int x.2)] acc x (by omega) rfl rfl rfl, jstep acc x, vl (.int x.1), vl (.int x.2), rfl, rfl, rfl, hj, ?_⟩
        · exact two_g (gN_ok rfl h2) (gN_ok rfl h3)
        · have : (jstep acc x).length ≤ acc.length + 1 := by
            unfold jstep
            split
            · split
              · simp
              · simp
            · simp
          omega) xs [S, .own (.lst []) false, .non, .non] ⟨[], .non, .non, rfl, rfl, rfl, rfl, by simpa using hl⟩
    exact ⟨ρ', e1, s2, s3, by rw [e2, ← e3]; rfl⟩
  obtain ⟨ρ', e1, s2, s3, rfl⟩ := hloop
  have hb : body_joined [.own (.lst (xs.map srcD)) true, .non, .non, .non] = .ret (.val (srcs (join xs))) [S, .own (.lst ((join xs).map srcD)) false, s2, s3] := by
    refine (cons_nx (ρ1 := [.own (.lst (xs.map srcD)) true, .own (.lst []) false, .non, .non]) rfl).trans ?_
    refine (cons_nx (for_ok (ρ1 := [S, .own (.lst []) false, .non, .non]) rfl e1)).trans ?_
    exact cons_ret (ret_ok (nat_ok (ev_one rfl) rfl rfl rfl))
  exact run_r hb rfl rfl rfl rfl rfl
end Sa

namespace Sa
open PySem L2

/-! ## Each def at its values: sources -/
theorem seq_new {f : SE} {ρ ρ1 : Rho} {ds : List D} (h : f ρ = .ok (.new (.lst ds)) ρ1) : sSeq f ρ = .ok ds ρ1 := by
  simp only [sSeq, h, Rs.bind_ok, frz, Rs.opt_some]
theorem seq_val {f : SE} {ρ ρ1 : Rho} {ds : List D} (h : f ρ = .ok (.val (.lst ds)) ρ1) : sSeq f ρ = .ok ds ρ1 := by
  simp only [sSeq, h, Rs.bind_ok, frz, Rs.opt_some]
theorem three_g {i j k : Nat} {ρ ρ1 ρ2 ρ3 : Rho} {a b c : D} (h1 : gN i a ρ = some ρ1) (h2 : gN j b ρ1 = some ρ2) (h3 : gN k c ρ2 = some ρ3) : gT [gN i, gN j, gN k] (.tup [a, b, c]) ρ = some ρ3 := by
  simp only [gT, gsT, h1, h2, h3, Option.bind_some]
theorem rowsP_len (L : Src) : (rowsP L).length ≤ 2 * L.length := by
  have := edges_len L
  unfold rowsP
  rw [List.length_map, List.length_zip]
  omega
def agP (L : Src) (m : Int) : Src := join (((rowsP L).filter fun r => decide (m ≤ (r.2.2.length : Int))).map fun r => (r.1, r.2.1))
theorem agP_eq {L : Src} (g : Good L) {m : Int} (h : 1 ≤ m) : agP L m = agr L m :=
  join_rows g (P := fun l => decide (m ≤ (l.length : Int))) (decide_eq_false (by simp; omega))
theorem rows_call (L : Src) (g : Okay L) {ρ : Rho} (h : ρ[0]? = some (vl (srcs L))) : sSeq (sCall fn_pieces_of [sVar 0]) ρ = .ok ((rowsP L).map rowD) ρ := by
  have h1 : sVar 0 ρ = .ok (.val (srcs L)) ρ := by simp only [sVar, h]
  exact seq_new (call_v (e_pieces L g) (ev_one h1) rfl rfl rfl rfl)
theorem e_told (L : Src) (g : Okay L) (m : Int) : fn_told_agreed [vl (srcs L), vl (.int m)] = .ok (.val (srcs (agP L m))) [vl (srcs L), vl (.int m)] := by
  have hf := g.few
  have hr := rowsP_len L
  let ρ0 : Rho := [vl (srcs L), vl (.int m), .non, .non, .non]
  have hc : sComp (sSeq (sCall fn_pieces_of [sVar 0])) (gT [gN 2, gN 3, gN 4]) (sNat nGe [sNat nLen [sVar 4], sVar 1]) (sTup [sVar 2, sVar 3]) [2, 3, 4] ρ0 = .ok (.new (.lst ((((rowsP L).filter fun r => decide (m ≤ (r.2.2.length : Int))).map fun r => (r.1, r.2.1)).map srcD))) ρ0 := by
    rw [List.map_map]
    refine comp_ev (rowsP L) rowD (fun r => decide (m ≤ (r.2.2.length : Int))) (srcD ∘ fun r => (r.1, r.2.1)) (rows_call L g rfl) (fun r _ => ?_) (by omega)
    let ρ1 : Rho := [vl (srcs L), vl (.int m), vl (.int r.1), vl (.int r.2.1), vl (.lst (r.2.2.map .int))]
    refine ⟨ρ1, three_g rfl rfl rfl, ?_, rfl, fun _ => ⟨_, _, _, tup_ok (ev_two rfl rfl) rfl, rfl, rfl⟩⟩
    have e : sNat nLen [sVar 4] ρ1 = .ok (.val (.int (r.2.2.length : Int))) ρ1 := nat_ok (ev_one rfl) rfl (o := .val (.int (r.2.2.length : Int))) (by simp only [nLen, List.length_map]) rfl
    exact nat_ok (ev_two e rfl) rfl rfl rfl
  have hj := e_joined (((rowsP L).filter fun r => decide (m ≤ (r.2.2.length : Int))).map fun r => (r.1, r.2.1)) (by
    have := List.length_filter_le (fun r : Int × Int × List Int => decide (m ≤ (r.2.2.length : Int))) (rowsP L)
    rw [List.length_map]; omega)
  have hb : body_told_agreed ρ0 = .ret (.val (srcs (agP L m))) ρ0 := cons_ret (ret_ok (call_v hj (ev_one hc) rfl rfl rfl rfl))
  exact run_r hb rfl rfl rfl rfl rfl
theorem chk (L : Src) (g : Okay L) {ρ : Rho} (h : ρ[0]? = some (vl (srcs L))) : sExpr (sCall fn_check_sources [sVar 0]) ρ = .nx ρ := by
  have h1 : sVar 0 ρ = .ok (.val (srcs L)) ρ := by simp only [sVar, h]
  exact expr_ok (call_v (e_check L g) (ev_one h1) rfl rfl rfl rfl)
theorem len_srcs (L : Src) {i : Nat} {ρ : Rho} {p : Bool} (h : ρ[i]? = some (.val (srcs L) p)) : sNat nLen [sVar i] ρ = .ok (.val (.int (L.length : Int))) ρ := by
  have h1 : sVar i ρ = .ok (.val (srcs L)) ρ := by simp only [sVar, h]
  exact nat_ok (ev_one h1) rfl (o := .val (.int (L.length : Int))) (by simp only [srcs, nLen, List.length_map]) rfl
theorem btw {n a b : Int} {fs : List SE} {ρ : Rho} (h : evs fs ρ = .ok [.val (.int n), .val (.int a), .val (.int b)] ρ) (h1 : a ≤ n) (h2 : n ≤ b) : sCall fn_is_between fs ρ = .ok (.val (.bl true)) ρ := by
  have e := e_is_between n a b
  rw [decide_eq_true h1, decide_eq_true h2] at e
  exact call_v e h rfl rfl rfl rfl
theorem e_agreed (L : Src) (g : Okay L) (m : Int) (h1 : 1 ≤ m) (h2 : m ≤ L.length) : fn_agreed [vl (srcs L), vl (.int m)] = .ok (.val (srcs (agP L m))) [vl (srcs L), vl (.int m)] := by
  let ρ0 : Rho := [vl (srcs L), vl (.int m)]
  have hb : body_agreed ρ0 = .ret (.val (srcs (agP L m))) ρ0 := by
    refine (cons_nx (chk L g rfl)).trans ?_
    refine (cons_nx ((ifs_ff (not_ok (btw (n := m) (a := 1) (b := L.length) (ev_cons rfl (ev_cons rfl (ev_one (len_srcs L rfl)))) h1 h2))).trans rfl)).trans ?_
    exact cons_ret (ret_ok (call_v (e_told L g m) rfl rfl rfl rfl rfl))
  exact run_r hb rfl rfl rfl rfl rfl
theorem maxI {l : List Int} (h : l ≠ []) : nMax1 [.lst (l.map .int)] = some (.val (.int (maxL l))) := by
  have : l.isEmpty = false := by cases l with | nil => exact absurd rfl h | cons a l => rfl
  simp only [nMax1, D.ints_map, Option.bind_some, guard', this]
  rfl
theorem minI {l : List Int} (h : l ≠ []) : nMin1 [.lst (l.map .int)] = some (.val (.int (minL l))) := by
  have : l.isEmpty = false := by cases l with | nil => exact absurd rfl h | cons a l => rfl
  simp only [nMin1, D.ints_map, Option.bind_some, guard', this]
  rfl
theorem rowsP_ne {L : Src} (g : Good L) : rowsP L ≠ [] := fun e => by
  obtain ⟨r, hr, _⟩ := row_of g (rng_ne g) (lo_has g)
  rw [e] at hr; cases hr
theorem e_most (L : Src) (g : Okay L) : fn_most_agreed [vl (srcs L)] = .ok (.val (.int (most L))) [vl (srcs L)] := by
  have hf := g.few
  have hr := rowsP_len L
  let ρ0 : Rho := [vl (srcs L), .non, .non, .non]
  have hc : sComp (sSeq (sCall fn_pieces_of [sVar 0])) (gT [gN 1, gN 2, gN 3]) (sC (.bl true)) (sNat nLen [sVar 3]) [1, 2, 3] ρ0 = .ok (.new (.lst (((rowsP L).map fun r => (r.2.2.length : Int)).map .int))) ρ0 := by
    rw [List.map_map]
    refine comp_all (rowsP L) rowD (D.int ∘ fun r => (r.2.2.length : Int)) (rows_call L g rfl) (fun r _ => ?_) (by omega)
    let ρ1 : Rho := [vl (srcs L), vl (.int r.1), vl (.int r.2.1), vl (.lst (r.2.2.map .int))]
    have e : sNat nLen [sVar 3] ρ1 = .ok (.val (.int (r.2.2.length : Int))) ρ1 := nat_ok (ev_one rfl) rfl (o := .val (.int (r.2.2.length : Int))) (by simp only [nLen, List.length_map]) rfl
    exact ⟨ρ1, _, ρ1, ρ1, three_g rfl rfl rfl, e, rfl, rfl, rfl⟩
  have hm : nMax1 [.lst (((rowsP L).map fun r => (r.2.2.length : Int)).map .int)] = some (.val (.int (most L))) := by
    rw [maxI (by simpa using rowsP_ne g.toGood), most_rows g.toGood]
  have hb : body_most_agreed ρ0 = .ret (.val (.int (most L))) ρ0 := cons_ret (ret_ok (nat_ok (ev_one hc) rfl hm rfl))
  exact run_r hb rfl rfl rfl rfl rfl
theorem e_best (L : Src) (g : Okay L) : fn_best_agreed [vl (srcs L)] = .ok (.val (.tup [.int (most L), srcs (agP L (most L))])) [vl (srcs L)] := by
  let ρ0 : Rho := [vl (srcs L), .non]
  let ρ1 : Rho := [vl (srcs L), vl (.int (most L))]
  have hb : body_best_agreed ρ0 = .ret (.val (.tup [.int (most L), srcs (agP L (most L))])) ρ1 := by
    refine (cons_nx (chk L g rfl)).trans ?_
    refine (cons_nx (asg_ok (ρ1 := ρ0) (ρ2 := ρ0) (ρ3 := ρ1) (call_v (e_most L g) (ev_one rfl) rfl rfl rfl rfl) rfl rfl)).trans ?_
    exact cons_ret (ret_ok (tup_ok (ev_two rfl (call_v (e_told L g (most L)) rfl rfl rfl rfl rfl)) rfl))
  exact run_r hb rfl rfl rfl rfl rfl
theorem hav_nn {L : Src} {n : Int} : ∀ i ∈ hav L n, (0 : Int) ≤ i := fun i hi => by
  obtain ⟨x, _, rfl⟩ := List.mem_map.mp hi
  exact Int.natCast_nonneg _
/-- sorted(set(..)) of lots that are alike long -/
theorem sortT {ks : List (List Int)} {d : Nat} (h : ∀ k ∈ ks, k.length = d ∧ ∀ i ∈ k, (0 : Int) ≤ i) (hd : 1 ≤ d) (hl : ks.length < 64) (hne : ks ≠ []) : nSortSet [.lst (ks.map dT)] = some (.new (.lst ((setT ks).map dT))) := by
  cases ks with
  | nil => exact absurd rfl hne
  | cons k ks =>
    have h0 : D.ints? ((k :: ks).map dT) = none := rfl
    have e0 : hd0 (k :: ks) = d := (h k List.mem_cons_self).1
    have ha : ((k :: ks).all fun k' => decide (k'.length = hd0 (k :: ks)) && k'.all fun i => decide (0 ≤ i)) = true := by
      rw [e0]
      refine List.all_eq_true.mpr fun k' hk => ?_
      obtain ⟨a, b⟩ := h k' hk
      rw [decide_eq_true a, Bool.true_and]
      exact List.all_eq_true.mpr fun i hi => decide_eq_true (b i hi)
    rw [e0] at ha
    simp only [nSortSet, h0, D.tups_map, Option.bind_some, e0, guard', decide_eq_true hl, decide_eq_true hd, Bool.and_self, Bool.true_and, ha, if_true]
def lotsP (L : Src) : List (List Int) := ((rowsP L).filter fun r => decide ((r.2.2.length : Int) = most L)).map fun r => r.2.2
theorem lotsP_ok {L : Src} (g : Good L) : ∀ k ∈ lotsP L, k.length = (most L).toNat ∧ ∀ i ∈ k, (0 : Int) ≤ i := fun k hk => by
  obtain ⟨r, hr, rfl⟩ := List.mem_map.mp hk
  obtain ⟨h1, h2⟩ := List.mem_filter.mp hr
  have h2 := of_decide_eq_true h2
  refine ⟨by omega, ?_⟩
  rw [(of_row g h1).2]
  exact hav_nn
theorem most_row {L : Src} (g : Good L) : ∃ r ∈ rowsP L, (r.2.2.length : Int) = most L := by
  have hne : ((rowsP L).map fun r => (r.2.2.length : Int)) ≠ [] := by simpa using rowsP_ne g
  have := maxL_mem hne
  rw [most_rows g] at this
  obtain ⟨r, hr, e⟩ := List.mem_map.mp this
  exact ⟨r, hr, e⟩
theorem lotsP_ne {L : Src} (g : Good L) : lotsP L ≠ [] := fun e => by
  obtain ⟨r, hr, h⟩ := most_row g
  have : r.2.2 ∈ lotsP L := List.mem_map.mpr ⟨r, List.mem_filter.mpr ⟨hr, decide_eq_true h⟩, rfl⟩
  rw [e] at this; cases this
theorem e_lots (L : Src) (g : Okay L) : fn_lots_right [vl (srcs L)] = .ok (.val (.tup ((setT (lotsP L)).map dT))) [vl (srcs L)] := by
  have hf := g.few
  have hr := rowsP_len L
  have hm := most_pos g.toGood
  let ρ0 : Rho := [vl (srcs L), .non, .non, .non, .non]
  let ρ1 : Rho := [vl (srcs L), vl (.int (most L)), .non, .non, .non]
  have hc : sComp (sSeq (sCall fn_pieces_of [sVar 0])) (gT [gN 2, gN 3, gN 4]) (sNat nEqS [sNat nLen [sVar 4], sVar 1]) (sNat nTuple [sVar 4]) [2, 3, 4] ρ1 = .ok (.new (.lst ((lotsP L).map dT))) ρ1 := by
    unfold lotsP
    rw [List.map_map]
    refine comp_ev (rowsP L) rowD (fun r => decide ((r.2.2.length : Int) = most L)) (dT ∘ fun r => r.2.2) (rows_call L g rfl) (fun r _ => ?_) (by omega)
    let ρ2 : Rho := [vl (srcs L), vl (.int (most L)), vl (.int r.1), vl (.int r.2.1), vl (.lst (r.2.2.map .int))]
    refine ⟨ρ2, three_g rfl rfl rfl, ?_, rfl, fun _ => ⟨_, ρ2, ρ2, nat_ok (ev_one rfl) rfl rfl rfl, rfl, rfl⟩⟩
    have e : sNat nLen [sVar 4] ρ2 = .ok (.val (.int (r.2.2.length : Int))) ρ2 := nat_ok (ev_one rfl) rfl (o := .val (.int (r.2.2.length : Int))) (by simp only [nLen, List.length_map]) rfl
    exact nat_ok (ev_two e rfl) rfl (eqS_i _ _) rfl
  have hs := sortT (lotsP_ok g.toGood) (by omega) (by
    have := List.length_filter_le (fun r : Int × Int × List Int => decide ((r.2.2.length : Int) = most L)) (rowsP L)
    unfold lotsP
    rw [List.length_map]; omega) (lotsP_ne g.toGood)
  have hb : body_lots_right ρ0 = .ret (.val (.tup ((setT (lotsP L)).map dT))) ρ1 := by
    refine (cons_nx (chk L g rfl)).trans ?_
    refine (cons_nx (asg_ok (ρ1 := ρ0) (ρ2 := ρ0) (ρ3 := ρ1) (call_v (e_most L g) (ev_one rfl) rfl rfl rfl rfl) rfl rfl)).trans ?_
    exact cons_ret (ret_ok (nat_ok (ev_one (nat_ok (ev_one hc) rfl hs rfl)) rfl rfl rfl))
  exact run_r hb rfl rfl rfl rfl rfl
theorem e_have (L : Src) (g : Okay L) (n : Int) (h1 : -199998 ≤ n) (h2 : n ≤ 199998) : fn_have [vl (srcs L), vl (.int n)] = .ok (.val (dT (hav L n))) [vl (srcs L), vl (.int n)] := by
  have hf := g.few
  let ρ0 : Rho := [vl (srcs L), vl (.int n)]
  have hb : body_have ρ0 = .ret (.val (dT (hav L n))) ρ0 := by
    refine (cons_nx (chk L g rfl)).trans ?_
    refine (cons_nx ((ifs_ff (not_ok (btw (n := n) (a := 0 - 199998) (b := 199998) rfl (by omega) h2))).trans rfl)).trans ?_
    exact cons_ret (ret_ok (nat_ok (ev_one (call_v (e_having L n (by omega)) (ev_two rfl rfl) rfl rfl rfl rfl)) rfl rfl rfl))
  exact run_r hb rfl rfl rfl rfl rfl
theorem e_wrong (L : Src) (g : Okay L) (k : Int) (h1 : 0 ≤ k) (h2 : k < L.length) : fn_check_wrong [vl (srcs L), vl (.int k)] = .ok (.val .non) [vl (srcs L), vl (.int k)] := by
  let ρ0 : Rho := [vl (srcs L), vl (.int k)]
  have hb : body_check_wrong ρ0 = .nx ρ0 := by
    refine (cons_nx (chk L g rfl)).trans ?_
    have hl : sNat nSub [sNat nLen [sVar 0], sC (.int 1)] ρ0 = .ok (.val (.int ((L.length : Int) - 1))) ρ0 := nat_ok (ev_two (len_srcs L rfl) rfl) rfl rfl rfl
    exact (cons_nx ((ifs_ff (not_ok (btw (n := k) (a := 0) (b := (L.length : Int) - 1) (ev_cons rfl (ev_cons rfl (ev_one hl))) h1 (by omega)))).trans rfl)).trans rfl
  exact run_n hb rfl rfl rfl rfl
def couldD (L : Src) (k : Int) : D := if k < (L.length : Int) - most L then .tup [.str "more", .int ((L.length : Int) - most L)] else .tup [.str "spans", srcs (agP L ((L.length : Int) - k))]
theorem e_could (L : Src) (g : Okay L) (k : Int) : fn_told_could [vl (srcs L), vl (.int k)] = .ok (.val (couldD L k)) [vl (srcs L), vl (.int k)] := by
  let ρ0 : Rho := [vl (srcs L), vl (.int k), .non]
  let ρ1 : Rho := [vl (srcs L), vl (.int k), vl (.int ((L.length : Int) - most L))]
  have hb : body_told_could ρ0 = .ret (.val (couldD L k)) ρ1 := by
    have hm : sNat nSub [sNat nLen [sVar 0], sCall fn_most_agreed [sVar 0]] ρ0 = .ok (.val (.int ((L.length : Int) - most L))) ρ0 := nat_ok (ev_two (len_srcs L rfl) (call_v (e_most L g) (ev_one rfl) rfl rfl rfl rfl)) rfl rfl rfl
    refine (cons_nx (asg_ok (i := 2) (ρ1 := ρ0) (ρ2 := ρ0) (ρ3 := ρ1) hm rfl rfl)).trans (cons_ret (ret_ok ?_))
    unfold couldD
    by_cases h : k < (L.length : Int) - most L
    · rw [if_pos h]
      refine if_tt (ρ1 := ρ1) ?_ (tup_ok (ev_two rfl rfl) rfl)
      exact nat_ok (ev_two rfl rfl) rfl (o := .val (.bl true)) (by simp only [nGt, decide_eq_true h]) rfl
    · rw [if_neg h]
      refine if_ff (ρ1 := ρ1) ?_ (tup_ok (ev_two rfl (call_v (e_told L g ((L.length : Int) - k)) (ev_two rfl (nat_ok (ev_two (len_srcs L rfl) rfl) rfl rfl rfl)) rfl rfl rfl rfl)) rfl)
      exact nat_ok (ev_two rfl rfl) rfl (o := .val (.bl false)) (by simp only [nGt, decide_eq_false h]) rfl
  exact run_r hb rfl rfl rfl rfl rfl
theorem e_truth (L : Src) (g : Okay L) (k : Int) (h1 : 0 ≤ k) (h2 : k < L.length) : fn_truth_spans [vl (srcs L), vl (.int k)] = .ok (.val (couldD L k)) [vl (srcs L), vl (.int k)] := by
  let ρ0 : Rho := [vl (srcs L), vl (.int k)]
  have hb : body_truth_spans ρ0 = .ret (.val (couldD L k)) ρ0 :=
    (cons_nx (expr_ok (call_v (e_wrong L g k h1 h2) rfl rfl rfl rfl rfl))).trans (cons_ret (ret_ok (call_v (e_could L g k) rfl rfl rfl rfl rfl)))
  exact run_r hb rfl rfl rfl rfl rfl
end Sa

namespace Sa
open PySem L2

/-! ## Each def at its values: the drawn digits -/
theorem bits_small {i : Int} (h : i.natAbs < 2 ^ 200) : (bits i : Int) ≤ 201 := by
  unfold bits Builtin.Int.intBits
  by_cases z : i.natAbs = 0
  · have : i = 0 := by omega
    subst this; decide
  · have := (Nat.log2_lt z).mpr h
    split <;> omega
theorem mul_ok {a b : Int} (ha : a.natAbs < 2 ^ 200) (hb : b.natAbs < 2 ^ 200) : nMul [.int a, .int b] = some (.val (.int (a * b))) := by
  have h1 := bits_small ha
  have h2 := bits_small hb
  simp only [nMul, guard']
  rw [if_pos (decide_eq_true (by omega))]
theorem mod_ok {a b : Int} (h : 0 < b) : nMod [.int a, .int b] = some (.val (.int (a % b))) := by
  simp only [nMod, guard', decide_eq_true h, if_true]
theorem div_ok {a b : Int} (h : 0 < b) (h2 : b < 2 ^ 200) : nDiv [.int a, .int b] = some (.val (.int (a / b))) := by
  have : b.natAbs.log2 < 9000 := by
    refine Nat.lt_trans ((Nat.log2_lt (by omega)).mpr (show b.natAbs < 2 ^ 200 by omega)) (by decide)
  simp only [nDiv, guard', decide_eq_true h, decide_eq_true this, Bool.and_self, if_true]
theorem pow3_ok {a : Int} (ha : a.natAbs < 2 ^ 200) : nPow [.int a, .int 3] = some (.val (.int (a ^ (3 : Int).toNat))) := by
  have h1 := bits_small ha
  simp only [nPow, guard']
  rw [if_pos]
  rw [decide_eq_true (show (0 : Int) ≤ 3 by decide), Bool.true_and]
  exact decide_eq_true (by omega)
def PotOk (n : Int) (pot : List D) : Prop := ∃ a b c : Int, pot = [.int a, .int b, .int c] ∧ 0 ≤ b ∧ b < 2 ^ 62 ∧ 0 ≤ c ∧ c ≤ n
theorem PotOk.mono {m n : Int} {pot : List D} (h : PotOk m pot) (hm : m ≤ n) : PotOk n pot := by
  obtain ⟨a, b, c, h1, h2, h3, h4, h5⟩ := h
  exact ⟨a, b, c, h1, h2, h3, h4, by omega⟩
theorem natAbs_lt {i : Int} (h0 : 0 ≤ i) (h : i < 2 ^ 200) : i.natAbs < 2 ^ 200 := by omega
theorem take0 {a b c u : Int} (ha : 0 < a) (hu : 0 < u) (hu2 : u ≤ 1000000) : fn__law_take [.own (.lst [.int a, .int b, .int c]) false, vl (.int u)] = .ok (.val (.int (a % u))) [.own (.lst [.int (a / u), .int b, .int c]) false, vl (.int u)] := by
  let ρ0 : Rho := [.own (.lst [.int a, .int b, .int c]) true, vl (.int u), .non, .non, .non]
  let ρ1 : Rho := [.own (.lst [.int a, .int b, .int c]) true, vl (.int u), .non, .non, vl (.int (a % u))]
  let ρ2 : Rho := [.own (.lst [.int (a / u), .int b, .int c]) true, vl (.int u), .non, .non, vl (.int (a % u))]
  have i0 : ∀ ρ : Rho, ρ[0]? = some (.own (.lst [.int a, .int b, .int c]) true) → sNat nIdx [sVar 0, sC (.int 0)] ρ = .ok (.val (.int a)) ρ := fun ρ h => by
    have h1 : sVar 0 ρ = .ok (.own 0) ρ := by simp only [sVar, h]
    exact nat_ok (ds := [.lst [.int a, .int b, .int c], .int 0]) (ev_two h1 rfl) (by simp only [views, view, h]; rfl) rfl rfl
  have hc : sNat nGt [sNat nIdx [sVar 0, sC (.int 0)], sC (.int 0)] ρ0 = .ok (.val (.bl true)) ρ0 := nat_ok (ev_two (i0 ρ0 rfl) rfl) rfl (o := .val (.bl true)) (by simp only [nGt, decide_eq_true ha]) rfl
  have hb : body__law_take ρ0 = .ret (.val (.int (a % u))) ρ2 := by
    refine cons_ret ((ifs_tt hc).trans ?_)
    have hi : sNat nInt [sNat nIdx [sVar 0, sC (.int 0)]] ρ0 = .ok (.val (.int a)) ρ0 := nat_ok (ev_one (i0 ρ0 rfl)) rfl rfl rfl
    have hm : sNat nMod [sNat nInt [sNat nIdx [sVar 0, sC (.int 0)]], sVar 1] ρ0 = .ok (.val (.int (a % u))) ρ0 := nat_ok (ev_two (q := .val (.int u)) hi rfl) rfl (mod_ok hu) rfl
    have hd : sNat nDiv [sNat nIdx [sVar 0, sC (.int 0)], sVar 1] ρ1 = .ok (.val (.int (a / u))) ρ1 := nat_ok (ev_two (q := .val (.int u)) (i0 ρ1 rfl) rfl) rfl (div_ok hu (by omega)) rfl
    refine (cons_nx (asg_ok (i := 4) (ρ1 := ρ0) (ρ2 := ρ0) (ρ3 := ρ1) hm rfl rfl)).trans ?_
    refine (cons_nx (setIx_ok (i := 0) (k := 0) (j := 0) hd rfl rfl rfl rfl rfl)).trans ?_
    exact cons_ret (ret_ok rfl)
  exact run_r hb rfl rfl rfl rfl rfl
theorem take1 {a b c u : Int} (ha : ¬ 0 < a) (hb0 : 0 ≤ b) (hb1 : b < 2 ^ 62) (hc0 : 0 ≤ c) (hc1 : c ≤ 1000000) (hu : 0 < u) :
    ∃ r : Int, fn__law_take [.own (.lst [.int a, .int b, .int c]) false, vl (.int u)] = .ok (.val (.int r)) [.own (.lst [.int a, .int b, .int (c + 1)]) false, vl (.int u)] ∧ 0 ≤ r ∧ r < u := by
  let P0 : Sl := .own (.lst [.int a, .int b, .int c]) true
  let P1 : Sl := .own (.lst [.int a, .int b, .int (c + 1)]) true
  let ρ0 : Rho := [P0, vl (.int u), .non, .non, .non]
  let ρ1 : Rho := [P1, vl (.int u), .non, .non, .non]
  have i0 : sNat nIdx [sVar 0, sC (.int 0)] ρ0 = .ok (.val (.int a)) ρ0 := nat_ok (ds := [.lst [.int a, .int b, .int c], .int 0]) (ev_two rfl rfl) rfl rfl rfl
  have i2 : sNat nIdx [sVar 0, sC (.int 2)] ρ0 = .ok (.val (.int c)) ρ0 := nat_ok (ds := [.lst [.int a, .int b, .int c], .int 2]) (ev_two rfl rfl) rfl rfl rfl
  have hc : sNat nGt [sNat nIdx [sVar 0, sC (.int 0)], sC (.int 0)] ρ0 = .ok (.val (.bl false)) ρ0 := nat_ok (ev_two i0 rfl) rfl (o := .val (.bl false)) (by simp only [nGt, decide_eq_false ha]) rfl
  have j2 : ∀ s2 s3 : Sl, sNat nIdx [sVar 0, sC (.int 2)] [P1, vl (.int u), s2, s3, .non] = .ok (.val (.int (c + 1))) [P1, vl (.int u), s2, s3, .non] := fun s2 s3 => nat_ok (ds := [.lst [.int a, .int b, .int (c + 1)], .int 2]) (ev_two rfl rfl) rfl rfl rfl
  have j1 : ∀ s2 s3 : Sl, sNat nIdx [sVar 0, sC (.int 1)] [P1, vl (.int u), s2, s3, .non] = .ok (.val (.int b)) [P1, vl (.int u), s2, s3, .non] := fun s2 s3 => nat_ok (ds := [.lst [.int a, .int b, .int (c + 1)], .int 1]) (ev_two rfl rfl) rfl rfl rfl
  -- the prime
  have hp : ∃ p : Int, nIdx [.lst [.int 2147483647, .int 2147483629, .int 2147483587, .int 2147483579, .int 2147483563], .int ((c + 1) % 5)] = some (.val (.int p)) ∧ 0 < p ∧ p < 2 ^ 31 := by
    have h5 : (c + 1) % 5 = 0 ∨ (c + 1) % 5 = 1 ∨ (c + 1) % 5 = 2 ∨ (c + 1) % 5 = 3 ∨ (c + 1) % 5 = 4 := by omega
    rcases h5 with h | h | h | h | h <;> rw [h]
    · exact ⟨2147483647, rfl, by decide, by decide⟩
    · exact ⟨2147483629, rfl, by decide, by decide⟩
    · exact ⟨2147483587, rfl, by decide, by decide⟩
    · exact ⟨2147483579, rfl, by decide, by decide⟩
    · exact ⟨2147483563, rfl, by decide, by decide⟩
  obtain ⟨p, hp, p0, p1⟩ := hp
  let ρ2 : Rho := [P1, vl (.int u), vl (.int p), .non, .non]
  have m1 : (97187 * (c + 1)).natAbs < 2 ^ 200 := natAbs_lt (by omega) (by omega)
  have cc : (c + 1) * (c + 1) ≤ 1000001 * 1000001 := Int.mul_le_mul (by omega) (by omega) (by omega) (by omega)
  have cc0 : 0 ≤ (c + 1) * (c + 1) := Int.mul_nonneg (by omega) (by omega)
  have e97 : 97187 * (c + 1) * (c + 1) = 97187 * ((c + 1) * (c + 1)) := Int.mul_assoc _ _ _
  have s0 : 0 ≤ b + 97187 * (c + 1) * (c + 1) + 47 := by rw [e97]; omega
  have s1 : b + 97187 * (c + 1) * (c + 1) + 47 < 2 ^ 200 := by rw [e97]; omega
  generalize hw : b + 97187 * (c + 1) * (c + 1) + 47 = w at s0 s1
  have q0 : 0 ≤ w ^ (3 : Int).toNat % p := Int.emod_nonneg _ (by omega)
  have q1 : w ^ (3 : Int).toNat % p < p := Int.emod_lt_of_pos _ p0
  generalize hq : w ^ (3 : Int).toNat % p = m at q0 q1
  let ρ3 : Rho := [P1, vl (.int u), vl (.int p), vl (.int m), .non]
  have k0 : 0 ≤ m % 10159 + 101 * (c + 1) := by have := Int.emod_nonneg m (show (10159 : Int) ≠ 0 by decide); omega
  have k1 : m % 10159 + 101 * (c + 1) < 2 ^ 200 := by have := Int.emod_lt_of_pos m (show (0 : Int) < 10159 by decide); omega
  obtain ⟨o, ho⟩ : ∃ o, m * (m % 10159 + 101 * (c + 1)) % 2305843009213693907 = o := ⟨_, rfl⟩
  let ρ4 : Rho := [P1, vl (.int u), vl (.int p), vl (.int o), .non]
  refine ⟨o / 107 % u, ?_, Int.emod_nonneg _ (by omega), Int.emod_lt_of_pos _ hu⟩
  have hb : body__law_take ρ0 = .ret (.val (.int (o / 107 % u))) ρ4 := by
    refine (cons_nx ((ifs_ff hc).trans rfl)).trans ?_
    refine (cons_nx (ρ1 := ρ1) (setIx_ok (i := 0) (k := 2) (j := 2) (nat_ok (ev_two i2 rfl) rfl (o := .val (.int (c + 1))) rfl rfl) rfl rfl rfl rfl rfl)).trans ?_
    refine (cons_nx (asg_ok (i := 2) (ρ1 := ρ1) (ρ2 := ρ1) (ρ3 := ρ2) (nat_ok (ds := [.lst [.int 2147483647, .int 2147483629, .int 2147483587, .int 2147483579, .int 2147483563], .int ((c + 1) % 5)]) (ev_two rfl (nat_ok (ev_two (nat_ok (ev_one (j2 .non .non)) rfl (o := .val (.int (c + 1))) rfl rfl) rfl) rfl (mod_ok (by decide)) rfl)) rfl hp rfl) rfl rfl)).trans ?_
    refine (cons_nx (asg_ok (i := 3) (r := .val (.int m)) (ρ1 := ρ2) (ρ2 := ρ2) (ρ3 := ρ3) ?_ rfl rfl)).trans ?_
    · have t1 : sNat nMul [sC (.int 97187), sNat nIdx [sVar 0, sC (.int 2)]] ρ2 = .ok (.val (.int (97187 * (c + 1)))) ρ2 := nat_ok (ev_two rfl (j2 _ _)) rfl (mul_ok (by decide) (natAbs_lt (by omega) (by omega))) rfl
      have t2 : sNat nMul [sNat nMul [sC (.int 97187), sNat nIdx [sVar 0, sC (.int 2)]], sNat nIdx [sVar 0, sC (.int 2)]] ρ2 = .ok (.val (.int (97187 * (c + 1) * (c + 1)))) ρ2 := nat_ok (ev_two t1 (j2 _ _)) rfl (mul_ok m1 (natAbs_lt (by omega) (by omega))) rfl
      have t3 : sNat nAdd [sNat nAdd [sNat nIdx [sVar 0, sC (.int 1)], sNat nMul [sNat nMul [sC (.int 97187), sNat nIdx [sVar 0, sC (.int 2)]], sNat nIdx [sVar 0, sC (.int 2)]]], sC (.int 47)] ρ2 = .ok (.val (.int w)) ρ2 :=
        nat_ok (ev_two (nat_ok (ev_two (j1 _ _) t2) rfl (o := .val (.int (b + 97187 * (c + 1) * (c + 1)))) rfl rfl) rfl) rfl (o := .val (.int w)) (by rw [← hw]; rfl) rfl
      have t4 := nat_ok (n := nPow) (ev_two (g := sC (.int 3)) t3 rfl) rfl (pow3_ok (natAbs_lt s0 s1)) rfl
      have t5 : sNat nInt [sNat nPow [sNat nAdd [sNat nAdd [sNat nIdx [sVar 0, sC (.int 1)], sNat nMul [sNat nMul [sC (.int 97187), sNat nIdx [sVar 0, sC (.int 2)]], sNat nIdx [sVar 0, sC (.int 2)]]], sC (.int 47)], sC (.int 3)]] ρ2 = .ok (.val (.int (w ^ (3 : Int).toNat))) ρ2 := nat_ok (ev_one t4) rfl (o := .val (.int (w ^ (3 : Int).toNat))) rfl rfl
      exact nat_ok (ev_two t5 rfl) rfl (o := .val (.int m)) (by rw [← hq]; exact mod_ok p0) rfl
    refine (cons_nx (asg_ok (i := 3) (r := .val (.int o)) (ρ1 := ρ3) (ρ2 := ρ3) (ρ3 := ρ4) ?_ rfl rfl)).trans ?_
    · have t1 : sNat nMod [sNat nInt [sVar 3], sC (.int 10159)] ρ3 = .ok (.val (.int (m % 10159))) ρ3 := nat_ok (ev_two (nat_ok (ev_one rfl) rfl (o := .val (.int m)) rfl rfl) rfl) rfl (mod_ok (by decide)) rfl
      have t2 : sNat nMul [sC (.int 101), sNat nIdx [sVar 0, sC (.int 2)]] ρ3 = .ok (.val (.int (101 * (c + 1)))) ρ3 := nat_ok (ev_two rfl (j2 _ _)) rfl (mul_ok (by decide) (natAbs_lt (by omega) (by omega))) rfl
      have t3 : sNat nAdd [sNat nMod [sNat nInt [sVar 3], sC (.int 10159)], sNat nMul [sC (.int 101), sNat nIdx [sVar 0, sC (.int 2)]]] ρ3 = .ok (.val (.int (m % 10159 + 101 * (c + 1)))) ρ3 := nat_ok (ev_two t1 t2) rfl (o := .val (.int (m % 10159 + 101 * (c + 1)))) rfl rfl
      have t4 := nat_ok (n := nMul) (ev_two (f := sVar 3) (r := .val (.int m)) (ρ := ρ3) (ρ1 := ρ3) rfl t3) rfl (mul_ok (natAbs_lt q0 (by omega)) (natAbs_lt k0 k1)) rfl
      exact nat_ok (ev_two (nat_ok (ev_one t4) rfl (o := .val (.int (m * (m % 10159 + 101 * (c + 1))))) rfl rfl) rfl) rfl (o := .val (.int o)) (by rw [← ho]; exact mod_ok (by decide)) rfl
    exact cons_ret (ret_ok (nat_ok (ev_two (nat_ok (ev_one (nat_ok (ev_two rfl rfl) rfl (o := .val (.int (o / 107))) (div_ok (by decide) (by decide)) rfl)) rfl (o := .val (.int (o / 107))) rfl rfl) rfl) rfl (mod_ok hu) rfl))
  exact run_r hb rfl rfl rfl rfl rfl
theorem take {pot : List D} {n u : Int} (h : PotOk n pot) (hn : n ≤ 1000000) (hu : 0 < u) (hu2 : u ≤ 1000000) :
    ∃ (r : Int) (pot' : List D), fn__law_take [.own (.lst pot) false, vl (.int u)] = .ok (.val (.int r)) [.own (.lst pot') false, vl (.int u)] ∧ 0 ≤ r ∧ r < u ∧ PotOk (n + 1) pot' := by
  obtain ⟨a, b, c, rfl, h1, h2, h3, h4⟩ := h
  by_cases ha : 0 < a
  · exact ⟨_, _, take0 ha hu hu2, Int.emod_nonneg _ (by omega), Int.emod_lt_of_pos _ hu, _, _, _, rfl, h1, h2, h3, by omega⟩
  · obtain ⟨r, e, r0, r1⟩ := take1 ha h1 h2 h3 (by omega) hu
    exact ⟨r, _, e, r0, r1, _, _, _, rfl, h1, h2, by omega, by omega⟩
/-- where pot is lent -/
theorem take_at {pot : List D} {n u : Int} {f : SE} {tl : List Sl} (h : PotOk n pot) (hn : n ≤ 1000000) (hu : 0 < u) (hu2 : u ≤ 1000000) (hf : f (.own (.lst pot) true :: tl) = .ok (.val (.int u)) (.own (.lst pot) true :: tl)) :
    ∃ (r : Int) (pot' : List D), sCall fn__law_take [sVar 0, f] (.own (.lst pot) true :: tl) = .ok (.val (.int r)) (.own (.lst pot') true :: tl) ∧ 0 ≤ r ∧ r < u ∧ PotOk (n + 1) pot' := by
  obtain ⟨r, pot', e, h1, h2, h3⟩ := take h hn hu hu2
  exact ⟨r, pot', call_v e (ev_two (r := .own 0) rfl hf) rfl rfl rfl rfl, h1, h2, h3⟩
end Sa

namespace Sa
open PySem L2

/-! ## Each def at its values: drawn sources -/
/-- some[..] of three numbers -/
theorem of_at {pot : List D} {n far : Int} {f : SE} {tl : List Sl} (h : PotOk n pot) (hn : n ≤ 1000000) (h0 : 0 ≤ far) (hf : f (.own (.lst pot) true :: tl) = .ok (.val (.int far)) (.own (.lst pot) true :: tl)) :
    ∃ (x : Int) (pot' : List D), sCall fn__law_of [sVar 0, sLst [sC (.int 2), sC (.int 6), f]] (.own (.lst pot) true :: tl) = .ok (.val (.int x)) (.own (.lst pot') true :: tl) ∧ 0 ≤ x ∧ x ≤ max 6 far ∧ PotOk (n + 1) pot' := by
  let ds : List D := [.int 2, .int 6, .int far]
  obtain ⟨r, pot', e, r0, r1, hp⟩ := take_at (tl := [.own (.lst ds) true]) (f := sNat nLen [sVar 1]) (u := 3) h hn (by decide) (by decide) (nat_ok (ds := [.lst ds]) (ev_one (r := .own 1) rfl) rfl rfl rfl)
  have hx : ∃ x : Int, nIdx [.lst ds, .int r] = some (.val (.int x)) ∧ 0 ≤ x ∧ x ≤ max 6 far := by
    have : r = 0 ∨ r = 1 ∨ r = 2 := by omega
    rcases this with q | q | q <;> subst q
    · exact ⟨2, rfl, by decide, by omega⟩
    · exact ⟨6, rfl, by decide, by omega⟩
    · exact ⟨far, rfl, h0, by omega⟩
  obtain ⟨x, hx, x0, x1⟩ := hx
  have hF : fn__law_of [.own (.lst pot) false, .own (.lst ds) false] = .ok (.val (.int x)) [.own (.lst pot') false, .own (.lst ds) false] := by
    have hb : body__law_of [.own (.lst pot) true, .own (.lst ds) true] = .ret (.val (.int x)) [.own (.lst pot') true, .own (.lst ds) true] :=
      cons_ret (ret_ok (nat_ok (ds := [.lst ds, .int r]) (ev_two (r := .own 1) rfl e) rfl hx rfl))
    exact run_r hb rfl rfl rfl rfl rfl
  have hl : sLst [sC (.int 2), sC (.int 6), f] (.own (.lst pot) true :: tl) = .ok (.new (.lst ds)) (.own (.lst pot) true :: tl) := lst_ok (ev_cons rfl (ev_cons rfl (ev_one hf))) rfl
  exact ⟨x, pot', call_v hF (ev_two (r := .own 0) rfl hl) rfl rfl rfl rfl, x0, x1, hp⟩
theorem rangeD_map (lo : Int) (k : Nat) : rangeD lo k = (List.range k).map fun (i : Nat) => .int (lo + i) := rfl
theorem max2_ok (i j : Int) : nMax2 [.int i, .int j] = some (.val (.int (max i j))) := by
  simp only [nMax2]
  congr 3
  split <;> omega
theorem min2_ok (i j : Int) : nMin2 [.int i, .int j] = some (.val (.int (min i j))) := by
  simp only [nMin2]
  congr 3
  split <;> omega
/-- one drawn source -/
structure Src1 (far : Int) (p : Int × Int) : Prop where
  le : p.1 ≤ p.2
  b1 : -99999 ≤ p.1
  b2 : p.2 ≤ 99999
  n1 : -(far + max 6 far) ≤ p.1
  n2 : p.2 ≤ far + max 6 far
def srcF : SS := sCons (sIfS (sNat nGt [sCall fn__law_take [sVar 0, sC (.int 4)], sC (.int 0)]) (sCons (sAsg 6 (sNat nSub [sVar 4, sCall fn__law_take [sVar 0, sNat nAdd [sC (.int 1), sCall fn__law_of [sVar 0, sLst [sC (.int 2), sC (.int 6), sVar 2]]]]])) (sCons (sAsg 7 (sNat nAdd [sVar 4, sCall fn__law_take [sVar 0, sNat nAdd [sC (.int 1), sCall fn__law_of [sVar 0, sLst [sC (.int 2), sC (.int 6), sVar 2]]]]])) (sCons (sExpr (sMut 5 mAppend [sTup [sNat nInt [sNat nMax2 [sNat nNeg [sC (.int 99999)], sVar 6]], sNat nInt [sNat nMin2 [sC (.int 99999), sVar 7]]]])) (sNil)))) (sCons (sAsg 6 (sNat nSub [sCall fn__law_take [sVar 0, sNat nAdd [sNat nMul [sC (.int 2), sVar 2], sC (.int 1)]], sVar 2])) (sCons (sExpr (sMut 5 mAppend [sTup [sNat nInt [sVar 6], sNat nInt [sNat nMin2 [sC (.int 99999), sNat nAdd [sVar 6, sCall fn__law_take [sVar 0, sNat nAdd [sC (.int 1), sVar 2]]]]]]])) (sNil)))) (sNil)
theorem srcF_ok {pot : List D} {n far truth : Int} {m : D} {acc : Src} {s3 s6 s7 : Sl} (h : PotOk n pot) (hn : n ≤ 999000) (hf0 : 0 ≤ far) (hf1 : far ≤ 90000) (ht : -far ≤ truth ∧ truth ≤ far) (h6 : s6.pinned = false) (h7 : s7.pinned = false) (hl : acc.length ≤ 100000) :
    ∃ (pot' : List D) (p : Int × Int) (t6 t7 : Sl), srcF [.own (.lst pot) true, vl m, vl (.int far), s3, vl (.int truth), .own (.lst (acc.map srcD)) false, s6, s7] = .nx [.own (.lst pot') true, vl m, vl (.int far), s3, vl (.int truth), .own (.lst ((acc ++ [p]).map srcD)) false, t6, t7] ∧
      PotOk (n + 5) pot' ∧ Src1 far p ∧ t6.pinned = false ∧ t7.pinned = false := by
  have hz : szOk (acc.map srcD).length = true := decide_eq_true (by simpa using hl)
  have app : ∀ p : Int × Int, mAppend (acc.map srcD) [srcD p] = some ((acc ++ [p]).map srcD, .non) := fun p => by simp only [mAppend, hz, if_true, List.map_append]; rfl
  obtain ⟨r1, pot1, e1, a1, a2, hp1⟩ := take_at (tl := [vl m, vl (.int far), s3, vl (.int truth), .own (.lst (acc.map srcD)) false, s6, s7]) (f := sC (.int 4)) (u := 4) h (by omega) (by decide) (by decide) rfl
  have hc := nat_ok (n := nGt) (o := .val (.bl (decide (0 < r1)))) (ev_two (g := sC (.int 0)) e1 rfl) rfl rfl rfl
  by_cases hr : 0 < r1
  · rw [decide_eq_true hr] at hc
    -- low
    obtain ⟨x, pot2, e2, b1, b2, hp2⟩ := of_at (tl := [vl m, vl (.int far), s3, vl (.int truth), .own (.lst (acc.map srcD)) false, s6, s7]) (f := sVar 2) hp1 (by omega) hf0 rfl
    have k2 : PotOk (n + 1 + 1) pot2 := hp2
    let T : List Sl := [vl m, vl (.int far), s3, vl (.int truth), .own (.lst (acc.map srcD)) false, s6, s7]
    have f2 : sNat nAdd [sC (.int 1), sCall fn__law_of [sVar 0, sLst [sC (.int 2), sC (.int 6), sVar 2]]] (.own (.lst pot1) true :: T) = .ok (.val (.int (1 + x))) (.own (.lst pot2) true :: T) := nat_ok (ev_two rfl e2) rfl rfl rfl
    obtain ⟨r3, pot3, e3', c1, c2, hp3⟩ := take (u := 1 + x) k2 (by omega) (by omega) (by omega)
    have e3 : sCall fn__law_take [sVar 0, sNat nAdd [sC (.int 1), sCall fn__law_of [sVar 0, sLst [sC (.int 2), sC (.int 6), sVar 2]]]] (.own (.lst pot1) true :: T) = .ok (.val (.int r3)) (.own (.lst pot3) true :: T) := call_v e3' (ev_two (r := .own 0) rfl f2) rfl rfl rfl rfl
    have g3 : sNat nSub [sVar 4, sCall fn__law_take [sVar 0, sNat nAdd [sC (.int 1), sCall fn__law_of [sVar 0, sLst [sC (.int 2), sC (.int 6), sVar 2]]]]] (.own (.lst pot1) true :: T) = .ok (.val (.int (truth - r3))) (.own (.lst pot3) true :: T) := nat_ok (ev_two rfl e3) rfl rfl rfl
    let T2 : List Sl := [vl m, vl (.int far), s3, vl (.int truth), .own (.lst (acc.map srcD)) false, vl (.int (truth - r3)), s7]
    have st3 : stSl 6 (vl (.int (truth - r3))) (.own (.lst pot3) true :: T) = some (.own (.lst pot3) true :: T2) := by
      show (if s6.pinned = true then none else _) = _
      rw [h6]; rfl
    -- high
    obtain ⟨y, pot4, e4, d1, d2, hp4⟩ := of_at (tl := T2) (f := sVar 2) hp3 (by omega) hf0 rfl
    have f4 : sNat nAdd [sC (.int 1), sCall fn__law_of [sVar 0, sLst [sC (.int 2), sC (.int 6), sVar 2]]] (.own (.lst pot3) true :: T2) = .ok (.val (.int (1 + y))) (.own (.lst pot4) true :: T2) := nat_ok (ev_two rfl e4) rfl rfl rfl
    obtain ⟨r5, pot5, e5', g1, g2, hp5⟩ := take (u := 1 + y) hp4 (by omega) (by omega) (by omega)
    have e5 : sCall fn__law_take [sVar 0, sNat nAdd [sC (.int 1), sCall fn__law_of [sVar 0, sLst [sC (.int 2), sC (.int 6), sVar 2]]]] (.own (.lst pot3) true :: T2) = .ok (.val (.int r5)) (.own (.lst pot5) true :: T2) := call_v e5' (ev_two (r := .own 0) rfl f4) rfl rfl rfl rfl
    have g5 : sNat nAdd [sVar 4, sCall fn__law_take [sVar 0, sNat nAdd [sC (.int 1), sCall fn__law_of [sVar 0, sLst [sC (.int 2), sC (.int 6), sVar 2]]]]] (.own (.lst pot3) true :: T2) = .ok (.val (.int (truth + r5))) (.own (.lst pot5) true :: T2) := nat_ok (ev_two rfl e5) rfl rfl rfl
    let T3 : List Sl := [vl m, vl (.int far), s3, vl (.int truth), .own (.lst (acc.map srcD)) false, vl (.int (truth - r3)), vl (.int (truth + r5))]
    have st5 : stSl 7 (vl (.int (truth + r5))) (.own (.lst pot5) true :: T2) = some (.own (.lst pot5) true :: T3) := by
      show (if s7.pinned = true then none else _) = _
      rw [h7]; rfl
    have t1 : sNat nInt [sNat nMax2 [sNat nNeg [sC (.int 99999)], sVar 6]] (.own (.lst pot5) true :: T3) = .ok (.val (.int (max (-99999) (truth - r3)))) (.own (.lst pot5) true :: T3) := by
      have z : sNat nMax2 [sNat nNeg [sC (.int 99999)], sVar 6] (.own (.lst pot5) true :: T3) = .ok (.val (.int (max (-99999) (truth - r3)))) (.own (.lst pot5) true :: T3) := nat_ok (ev_two (r := .val (.int (-99999))) rfl rfl) rfl (max2_ok _ _) rfl
      exact nat_ok (ev_one z) rfl rfl rfl
    have t2 : sNat nInt [sNat nMin2 [sC (.int 99999), sVar 7]] (.own (.lst pot5) true :: T3) = .ok (.val (.int (min 99999 (truth + r5)))) (.own (.lst pot5) true :: T3) := by
      have z : sNat nMin2 [sC (.int 99999), sVar 7] (.own (.lst pot5) true :: T3) = .ok (.val (.int (min 99999 (truth + r5)))) (.own (.lst pot5) true :: T3) := nat_ok (ev_two rfl rfl) rfl (min2_ok _ _) rfl
      exact nat_ok (ev_one z) rfl rfl rfl
    have ap := mut_ok' (i := 5) (m := mAppend) (ρ := .own (.lst pot5) true :: T3) (pn' := false) rfl (ev_one (tup_ok (ev_two t1 t2) rfl)) rfl rfl (app (max (-99999) (truth - r3), min 99999 (truth + r5)))
    refine ⟨pot5, (max (-99999) (truth - r3), min 99999 (truth + r5)), vl (.int (truth - r3)), vl (.int (truth + r5)), ?_, hp5.mono (by omega), ⟨?_, ?_, ?_, ?_, ?_⟩, rfl, rfl⟩
    · refine (cons_nx ((ifs_tt hc).trans ?_)).trans rfl
      exact (cons_nx (asg_ok (i := 6) g3 rfl st3)).trans ((cons_nx (asg_ok (i := 7) g5 rfl st5)).trans ((cons_nx (expr_ok ap)).trans rfl))
    · show max (-99999) (truth - r3) ≤ min 99999 (truth + r5); omega
    · show -99999 ≤ max (-99999) (truth - r3); omega
    · show min 99999 (truth + r5) ≤ 99999; omega
    · show -(far + max 6 far) ≤ max (-99999) (truth - r3); omega
    · show min 99999 (truth + r5) ≤ far + max 6 far; omega
  · rw [decide_eq_false hr] at hc
    let T : List Sl := [vl m, vl (.int far), s3, vl (.int truth), .own (.lst (acc.map srcD)) false, s6, s7]
    have f2 : sNat nAdd [sNat nMul [sC (.int 2), sVar 2], sC (.int 1)] (.own (.lst pot1) true :: T) = .ok (.val (.int (2 * far + 1))) (.own (.lst pot1) true :: T) := by
      have z : sNat nMul [sC (.int 2), sVar 2] (.own (.lst pot1) true :: T) = .ok (.val (.int (2 * far))) (.own (.lst pot1) true :: T) := nat_ok (ev_two rfl rfl) rfl (mul_ok (by decide) (natAbs_lt hf0 (by omega))) rfl
      exact nat_ok (ev_two z rfl) rfl rfl rfl
    obtain ⟨r2, pot2, e2, b1, b2, hp2⟩ := take_at (tl := T) hp1 (by omega) (show 0 < 2 * far + 1 by omega) (by omega) f2
    have g2 : sNat nSub [sCall fn__law_take [sVar 0, sNat nAdd [sNat nMul [sC (.int 2), sVar 2], sC (.int 1)]], sVar 2] (.own (.lst pot1) true :: T) = .ok (.val (.int (r2 - far))) (.own (.lst pot2) true :: T) := nat_ok (ev_two e2 rfl) rfl rfl rfl
    let T2 : List Sl := [vl m, vl (.int far), s3, vl (.int truth), .own (.lst (acc.map srcD)) false, vl (.int (r2 - far)), s7]
    have st2 : stSl 6 (vl (.int (r2 - far))) (.own (.lst pot2) true :: T) = some (.own (.lst pot2) true :: T2) := by
      show (if s6.pinned = true then none else _) = _
      rw [h6]; rfl
    obtain ⟨r3, pot3, e3, c1, c2, hp3⟩ := take_at (tl := T2) (f := sNat nAdd [sC (.int 1), sVar 2]) (u := 1 + far) hp2 (by omega) (by omega) (by omega) (nat_ok (ev_two rfl rfl) rfl rfl rfl)
    have t0 : sNat nAdd [sVar 6, sCall fn__law_take [sVar 0, sNat nAdd [sC (.int 1), sVar 2]]] (.own (.lst pot2) true :: T2) = .ok (.val (.int (r2 - far + r3))) (.own (.lst pot3) true :: T2) := nat_ok (ev_two rfl e3) rfl rfl rfl
    have t1 : sNat nMin2 [sC (.int 99999), sNat nAdd [sVar 6, sCall fn__law_take [sVar 0, sNat nAdd [sC (.int 1), sVar 2]]]] (.own (.lst pot2) true :: T2) = .ok (.val (.int (min 99999 (r2 - far + r3)))) (.own (.lst pot3) true :: T2) := nat_ok (ev_two rfl t0) rfl (min2_ok _ _) rfl
    have t2 : sNat nInt [sNat nMin2 [sC (.int 99999), sNat nAdd [sVar 6, sCall fn__law_take [sVar 0, sNat nAdd [sC (.int 1), sVar 2]]]]] (.own (.lst pot2) true :: T2) = .ok (.val (.int (min 99999 (r2 - far + r3)))) (.own (.lst pot3) true :: T2) := nat_ok (ev_one t1) rfl rfl rfl
    have t3 : sNat nInt [sVar 6] (.own (.lst pot2) true :: T2) = .ok (.val (.int (r2 - far))) (.own (.lst pot2) true :: T2) := nat_ok (ev_one rfl) rfl rfl rfl
    have ap := mut_ok' (i := 5) (m := mAppend) (ρ := .own (.lst pot2) true :: T2) (pn' := false) rfl (ev_one (tup_ok (ev_two t3 t2) rfl)) rfl rfl (app (r2 - far, min 99999 (r2 - far + r3)))
    refine ⟨pot3, (r2 - far, min 99999 (r2 - far + r3)), vl (.int (r2 - far)), s7, ?_, hp3.mono (by omega), ⟨?_, ?_, ?_, ?_, ?_⟩, rfl, h7⟩
    · refine (cons_nx ((ifs_ff hc).trans ?_)).trans rfl
      exact (cons_nx (asg_ok (i := 6) g2 rfl st2)).trans ((cons_nx (expr_ok ap)).trans rfl)
    · show r2 - far ≤ min 99999 (r2 - far + r3); omega
    · show -99999 ≤ r2 - far; omega
    · show min 99999 (r2 - far + r3) ≤ 99999; omega
    · show -(far + max 6 far) ≤ r2 - far; omega
    · show min 99999 (r2 - far + r3) ≤ far + max 6 far; omega
end Sa

namespace Sa
open PySem L2

/-! ## Each def at its values: the law's own lists -/
theorem rng1_ok {f : SE} {ρ ρ1 : Rho} {k : Int} (h : f ρ = .ok (.val (.int k)) ρ1) (h0 : 0 ≤ k) (h1 : k ≤ 1000000) : sRng1 f ρ = .ok ((List.range k.toNat).map fun (i : Nat) => .int (i : Int)) ρ1 := by
  have hk : okR k = true := by unfold okR; rw [decide_eq_true (by omega), decide_eq_true (by omega)]; rfl
  have e : rangeD 0 k.toNat = (List.range k.toNat).map fun (i : Nat) => D.int (i : Int) := by
    rw [rangeD_map]; exact List.map_congr_left fun i _ => by rw [Int.zero_add]
  simp only [sRng1, h, Rs.bind_ok, hk, if_true, e]
theorem rng2_ok {f g : SE} {ρ ρ1 ρ2 : Rho} {a b : Int} (h : f ρ = .ok (.val (.int a)) ρ1) (h2 : g ρ1 = .ok (.val (.int b)) ρ2) (h0 : -1000000 ≤ a) (h1 : a ≤ 1000000) (h3 : -1000000 ≤ b) (h4 : b ≤ 1000000) : sRng2 f g ρ = .ok ((nums a (b - a).toNat).map .int) ρ2 := by
  have ha : okR a = true := by unfold okR; rw [decide_eq_true (by omega), decide_eq_true (by omega)]; rfl
  have hb : okR b = true := by unfold okR; rw [decide_eq_true (by omega), decide_eq_true (by omega)]; rfl
  have e : rangeD a (b - a).toNat = (nums a (b - a).toNat).map D.int := by
    rw [rangeD_map]; unfold nums; rw [List.map_map]; rfl
  simp only [sRng2, h, Rs.bind_ok, h2, ha, hb, e, if_true, Bool.and_self]
theorem e_sources {pot : List D} {n most far : Int} (h : PotOk n pot) (hn : n ≤ 900000) (hm0 : 1 ≤ most) (hm1 : most ≤ 20) (hf0 : 0 ≤ far) (hf1 : far ≤ 90000) :
    ∃ (L : Src) (truth : Int) (pot' : List D), fn__law_sources [.own (.lst pot) false, vl (.int most), vl (.int far)] = .ok (.val (.tup [srcs L, .int truth])) [.own (.lst pot') false, vl (.int most), vl (.int far)] ∧
      PotOk (n + 200) pot' ∧ L ≠ [] ∧ (L.length : Int) ≤ most ∧ (∀ p ∈ L, Src1 far p) ∧ -far ≤ truth ∧ truth ≤ far := by
  let T : List Sl := [vl (.int most), vl (.int far), .non, .non, .non, .non, .non]
  have f1 : sNat nAdd [sNat nMul [sC (.int 2), sVar 2], sC (.int 1)] (.own (.lst pot) true :: T) = .ok (.val (.int (2 * far + 1))) (.own (.lst pot) true :: T) := by
    have z : sNat nMul [sC (.int 2), sVar 2] (.own (.lst pot) true :: T) = .ok (.val (.int (2 * far))) (.own (.lst pot) true :: T) := nat_ok (ev_two rfl rfl) rfl (mul_ok (by decide) (natAbs_lt hf0 (by omega))) rfl
    exact nat_ok (ev_two z rfl) rfl rfl rfl
  obtain ⟨r1, pot1, e1, a1, a2, hp1⟩ := take_at h (by omega) (show 0 < 2 * far + 1 by omega) (by omega) f1
  have g1 : sNat nInt [sNat nSub [sCall fn__law_take [sVar 0, sNat nAdd [sNat nMul [sC (.int 2), sVar 2], sC (.int 1)]], sVar 2]] (.own (.lst pot) true :: T) = .ok (.val (.int (r1 - far))) (.own (.lst pot1) true :: T) := by
    have z : sNat nSub [sCall fn__law_take [sVar 0, sNat nAdd [sNat nMul [sC (.int 2), sVar 2], sC (.int 1)]], sVar 2] (.own (.lst pot) true :: T) = .ok (.val (.int (r1 - far))) (.own (.lst pot1) true :: T) := nat_ok (ev_two e1 rfl) rfl rfl rfl
    exact nat_ok (ev_one z) rfl rfl rfl
  let T1 : List Sl := [vl (.int most), vl (.int far), .non, vl (.int (r1 - far)), .own (.lst []) false, .non, .non]
  have s1 : sPar 4 5 (sNat nInt [sNat nSub [sCall fn__law_take [sVar 0, sNat nAdd [sNat nMul [sC (.int 2), sVar 2], sC (.int 1)]], sVar 2]]) (sLst []) (.own (.lst pot) true :: T) = .nx (.own (.lst pot1) true :: T1) := par_ok (ev_two (q := .new (.lst [])) g1 rfl) rfl rfl rfl rfl
  obtain ⟨r2, pot2, e2, b1, b2, hp2⟩ := take_at (tl := T1) (f := sVar 1) (u := most) hp1 (by omega) (by omega) (by omega) rfl
  have g2 : sNat nAdd [sC (.int 1), sCall fn__law_take [sVar 0, sVar 1]] (.own (.lst pot1) true :: T1) = .ok (.val (.int (1 + r2))) (.own (.lst pot2) true :: T1) := nat_ok (ev_two rfl e2) rfl rfl rfl
  have hr := rng1_ok g2 (by omega) (by omega)
  obtain ⟨ρ', e3, pot3, acc, s3, s6, s7, eρ, hp3, h6, h7, _, hlen, hacc⟩ := for_ev (t := gN 3) (F := srcF) (fun (i : Nat) => D.int (i : Int))
    (fun rem ρ => ∃ (pot : List D) (acc : Src) (s3 s6 s7 : Sl), ρ = [.own (.lst pot) true, vl (.int most), vl (.int far), s3, vl (.int (r1 - far)), .own (.lst (acc.map srcD)) false, s6, s7] ∧ PotOk (n + 2 + 5 * (acc.length : Int)) pot ∧ s6.pinned = false ∧ s7.pinned = false ∧ s3.pinned = false ∧ acc.length + rem.length = (1 + r2).toNat ∧ ∀ p ∈ acc, Src1 far p)
    (fun a L ρ ⟨pot, acc, s3, s6, s7, e, hp, h6, h7, h3, hl, ha⟩ => by
      subst e
      simp only [List.length_cons] at hl
      obtain ⟨pot', p, t6, t7, e, hp', hs, q6, q7⟩ := srcF_ok (m := .int most) (far := far) (truth := r1 - far) (acc := acc) (s3 := vl (.int (a : Int))) hp (by omega) hf0 hf1 (by omega) h6 h7 (by omega)
      refine ⟨_, _, gN_ok rfl h3, e, pot', acc ++ [p], vl (.int (a : Int)), t6, t7, rfl, hp'.mono (by simp only [List.length_append, List.length_singleton]; omega), q6, q7, rfl, by simp only [List.length_append, List.length_singleton]; omega, fun q hq => ?_⟩
      rcases List.mem_append.mp hq with z | z
      · exact ha q z
      · rw [List.mem_singleton.mp z]; exact hs) (List.range (1 + r2).toNat) (.own (.lst pot2) true :: T1) ⟨pot2, [], .non, .non, .non, rfl, hp2.mono (by simp; omega), rfl, rfl, rfl, by simp, fun p hp => by cases hp⟩
  subst eρ
  simp only [List.length_nil, Nat.add_zero] at hlen
  refine ⟨acc, r1 - far, pot3, ?_, hp3.mono (by omega), fun e => by rw [e] at hlen; simp at hlen; omega, by omega, hacc, by omega, by omega⟩
  have hb : body__law_sources (.own (.lst pot) true :: T) = .ret (.val (.tup [srcs acc, .int (r1 - far)])) [.own (.lst pot3) true, vl (.int most), vl (.int far), s3, vl (.int (r1 - far)), .own (.lst (acc.map srcD)) false, s6, s7] := by
    refine (cons_nx s1).trans ((cons_nx (for_ok hr e3)).trans (cons_ret (ret_ok ?_)))
    have z : sNat nTuple [sVar 5] [.own (.lst pot3) true, vl (.int most), vl (.int far), s3, vl (.int (r1 - far)), .own (.lst (acc.map srcD)) false, s6, s7] = .ok (.val (srcs acc)) [.own (.lst pot3) true, vl (.int most), vl (.int far), s3, vl (.int (r1 - far)), .own (.lst (acc.map srcD)) false, s6, s7] := nat_ok (ds := [.lst (acc.map srcD)]) (ev_one (r := .own 5) rfl) rfl rfl rfl
    exact tup_ok (ev_two z rfl) rfl
  exact run_r hb rfl rfl rfl rfl rfl
/-- a row of numbers with who has them -/
def rowN (L : Src) (n : Int) : D := .tup [.int n, .lst ((hav L n).map .int)]
structure Near (L : Src) : Prop extends Okay L where
  l0 : -99999 ≤ lo L
  h0 : hi L ≤ 99999
theorem near_of {L : Src} (g : Okay L) : Near L := ⟨g, by
  have hl : lo L ∈ lows L := minL_mem fun e => g.ne (List.map_eq_nil_iff.mp e)
  obtain ⟨p, hp, e⟩ := List.mem_map.mp hl
  rw [← e]; exact (g.bd p hp).1, by
  have hl : hi L ∈ highs L := maxL_mem fun e => g.ne (List.map_eq_nil_iff.mp e)
  obtain ⟨p, hp, e⟩ := List.mem_map.mp hl
  rw [← e]; exact (g.bd p hp).2⟩
end Sa

namespace Sa
open PySem L2

/-! ## Each def at its values: sequences, weights, the cell -/
theorem seqIx {r : Int} {n : Nat} (h0 : 0 ≤ r) (h1 : r < n) : seqIndex? r n = some r.toNat := by
  have h : ixN n r = some r.toNat := by
    unfold ixN
    rw [if_pos h0, if_pos h1]
  exact (ixN_seq h).1
theorem erase_perm : ∀ (R : Src) (k : Nat) (p : Int × Int), R[k]? = some p → (p :: R.eraseIdx k).Perm R
  | [], _, _, h => by simp at h
  | a :: R, 0, p, h => by
    have e : a = p := by simpa using h
    subst e
    exact List.Perm.refl _
  | a :: R, k + 1, p, h => by
    have := erase_perm R k p (by simpa using h)
    rw [List.eraseIdx_cons_succ]
    exact (List.Perm.swap a p _).trans (List.Perm.cons a this)
theorem perm_erase (acc R : Src) (k : Nat) (p : Int × Int) (h : R[k]? = some p) : (acc ++ [p] ++ R.eraseIdx k).Perm (acc ++ R) := by
  rw [List.append_assoc]
  exact List.Perm.append_left acc (erase_perm R k p h)
theorem erase_map (R : Src) (k : Nat) : (R.map srcD).eraseIdx k = (R.eraseIdx k).map srcD := by
  induction R generalizing k with
  | nil => rfl
  | cons a R ih =>
    cases k with
    | zero => rfl
    | succ k => simp only [List.map_cons, List.eraseIdx_cons_succ, ih]
/-! weights -/
def wsum (ws : List Int) (l : List Int) : Int := (l.map fun i => ws.getD i.toNat 0).sum
def wgP (L : Src) (ws : List Int) (m : Int) : Src := join (((rowsP L).filter fun r => decide (m ≤ wsum ws r.2.2)).map fun r => (r.1, r.2.1))
def wgr (L : Src) (ws : List Int) (m : Int) : Src := spans ((rng L).filter fun n => decide (m ≤ wsum ws (hav L n)))
theorem wgP_eq {L : Src} (g : Good L) {ws : List Int} {m : Int} (h : 1 ≤ m) : wgP L ws m = wgr L ws m :=
  join_rows g (P := fun l => decide (m ≤ wsum ws l)) (decide_eq_false (by simp [wsum]; omega))
theorem hav_lt {L : Src} {n : Int} : ∀ i ∈ hav L n, 0 ≤ i ∧ i < L.length := fun i hi => by
  obtain ⟨x, hx, rfl⟩ := List.mem_map.mp hi
  have := (List.mem_zipIdx' (List.mem_filter.mp hx).1).1
  exact ⟨Int.natCast_nonneg _, by exact_mod_cast this⟩
theorem idx_w {ws : List Int} {i : Int} (h0 : 0 ≤ i) (h1 : i < ws.length) : nIdx [.tup (ws.map .int), .int i] = some (.val (.int (ws.getD i.toNat 0))) := by
  have hk : i.toNat < ws.length := by omega
  have h : ixN (ws.map D.int).length i = some i.toNat := by
    unfold ixN
    rw [if_pos h0, if_pos (by simpa using h1)]
  simp only [nIdx, atI, h, Option.bind_some, List.getElem?_map, List.getElem?_eq_getElem hk, Option.map_some, List.getD_eq_getElem?_getD, Option.getD_some]
/-- sum([weights[at] for at in some]) -/
theorem wsum_c {ws : List Int} {l : List Int} {a b c : Nat} {ρ : Rho} (hlen : l.length ≤ 1000) (hl : ∀ i ∈ l, 0 ≤ i ∧ i < ws.length) (hit : sSeq (sVar a) ρ = .ok (l.map .int) ρ)
    (hw : ∀ i ∈ l, ∃ ρ2, gN c (.int i) (wipeR ρ [c]) = some ρ2 ∧ evs [sVar b, sVar c] ρ2 = .ok [.val (.tup (ws.map .int)), .val (.int i)] ρ2 ∧ wipeR ρ2 [c] = wipeR ρ [c]) :
    sNat nSum [sComp (sSeq (sVar a)) (gN c) (sC (.bl true)) (sNat nIdx [sVar b, sVar c]) [c]] ρ = .ok (.val (.int (wsum ws l))) ρ := by
  have := comp_all (t := gN c) (e := sNat nIdx [sVar b, sVar c]) (vs := [c]) l D.int (fun i => .int (ws.getD i.toNat 0)) hit (fun i hi => by
    obtain ⟨ρ2, h1, h2, h3⟩ := hw i hi
    obtain ⟨p, q⟩ := hl i hi
    exact ⟨ρ2, _, ρ2, ρ2, h1, nat_ok h2 rfl (idx_w p q) rfl, rfl, h3, h3⟩) (by omega)
  refine nat_ok (ev_one this) rfl (o := .val (.int (wsum ws l))) ?_ rfl
  have e : (l.map fun i => D.int (ws.getD i.toNat 0)) = (l.map fun i => ws.getD i.toNat 0).map D.int := by rw [List.map_map]; rfl
  rw [e]
  simp only [nSum, D.ints_map, Option.map_some]
  rfl
theorem e_weighed (L : Src) (g : Okay L) (ws : List Int) (m : Int) (hw : ws.length = L.length) (h0 : ∀ x ∈ ws, 0 ≤ x ∧ x ≤ 99) (hm1 : 1 ≤ m) (hm2 : m ≤ 1980) :
    fn_weighed [vl (srcs L), vl (.tup (ws.map .int)), vl (.int m)] = .ok (.val (srcs (wgP L ws m))) [vl (srcs L), vl (.tup (ws.map .int)), vl (.int m)] := by
  have hf := g.few
  have hr := rowsP_len L
  let W : Sl := vl (.tup (ws.map .int))
  let ρ0 : Rho := [vl (srcs L), W, vl (.int m), .non, .non, .non, .non, .non, .non]
  have e1 : sIfS (sOr (sNot (sNat (nIsi "tuple") [sVar 1])) (sNat nNeS [sNat nLen [sVar 1], sNat nLen [sVar 0]])) (sCons (fun _ => .bad) sNil) sNil ρ0 = .nx ρ0 := by
    have z1 : sNat (nIsi "tuple") [sVar 1] ρ0 = .ok (.val (.bl true)) ρ0 := nat_ok (ev_one (r := .val (.tup (ws.map .int))) rfl) rfl (o := .val (.bl true)) (by simp only [nIsi, D.ty, kit_tt, Option.map_some]) rfl
    have z2 : sNat nLen [sVar 1] ρ0 = .ok (.val (.int (L.length : Int))) ρ0 := nat_ok (ev_one (r := .val (.tup (ws.map .int))) rfl) rfl (o := .val (.int (L.length : Int))) (by simp only [nLen, List.length_map, hw]) rfl
    have z3 : sNat nNeS [sNat nLen [sVar 1], sNat nLen [sVar 0]] ρ0 = .ok (.val (.bl false)) ρ0 := nat_ok (ev_two z2 (len_srcs L rfl)) rfl (o := .val (.bl false)) (by rw [neS_i]; simp) rfl
    exact (ifs_ff (or_ff (not_ok z1) z3)).trans rfl
  have c1 : sComp (sSeq (sVar 1)) (gN 4) (sC (.bl true)) (sCall fn_is_between [sVar 4, sC (.int 0), sC (.int 99)]) [4] ρ0 = .ok (.new (.lst (ws.map fun _ => .bl true))) ρ0 := by
    refine comp_all ws D.int (fun _ => .bl true) rfl (fun a ha => ?_) (by omega)
    obtain ⟨p, q⟩ := h0 a ha
    exact ⟨[vl (srcs L), W, vl (.int m), .non, vl (.int a), .non, .non, .non, .non], .val (.bl true), _, _, rfl, btw (n := a) (a := 0) (b := 99) rfl p q, rfl, rfl, rfl⟩
  have e2 : sIfS (sNot (sNat nAll [sComp (sSeq (sVar 1)) (gN 4) (sC (.bl true)) (sCall fn_is_between [sVar 4, sC (.int 0), sC (.int 99)]) [4]])) (sCons (fun _ => .bad) sNil) sNil ρ0 = .nx ρ0 := by
    have hb : D.bls? (ws.map fun _ => D.bl true) = some (ws.map fun _ => true) := by
      have := D.bls_map (ws.map fun _ => true)
      rw [List.map_map] at this; exact this
    have ha : nAll [.lst (ws.map fun _ => D.bl true)] = some (.val (.bl true)) := by
      simp only [nAll, hb, Option.map_some]
      congr 3
      simp
    exact (ifs_ff (not_ok (nat_ok (ev_one c1) rfl ha rfl))).trans rfl
  have e3 : sIfS (sNot (sCall fn_is_between [sVar 2, sC (.int 1), sNat nMul [sC (.int 20), sC (.int 99)]])) (sCons (fun _ => .bad) sNil) sNil ρ0 = .nx ρ0 := by
    have z : sNat nMul [sC (.int 20), sC (.int 99)] ρ0 = .ok (.val (.int 1980)) ρ0 := nat_ok (ev_two rfl rfl) rfl (mul_ok (by decide) (by decide)) rfl
    exact (ifs_ff (not_ok (btw (n := m) (a := 1) (b := 1980) (ev_cons rfl (ev_cons rfl (ev_one z))) hm1 hm2))).trans rfl
  let ρ1 : Rho := [vl (srcs L), W, vl (.int m), .own (.lst ((rowsP L).map rowD)) false, .non, .non, .non, .non, .non]
  let ρ2 : Rho := [vl (srcs L), W, vl (.int m), .val (.lst ((rowsP L).map rowD)) false, .non, .non, .non, .non, .non]
  have c2 : sComp (sSeq (sVar 3)) (gT [gN 5, gN 6, gN 7]) (sNat nGe [sNat nSum [sComp (sSeq (sVar 7)) (gN 8) (sC (.bl true)) (sNat nIdx [sVar 1, sVar 8]) [8]], sVar 2]) (sTup [sVar 5, sVar 6]) [5, 6, 7] ρ1 = .ok (.new (.lst ((((rowsP L).filter fun r => decide (m ≤ wsum ws r.2.2)).map fun r => (r.1, r.2.1)).map srcD))) ρ2 := by
    rw [List.map_map]
    refine comp_ev (rowsP L) rowD (fun r => decide (m ≤ wsum ws r.2.2)) (srcD ∘ fun r => (r.1, r.2.1)) rfl (fun r hr' => ?_) (by omega)
    let ρ3 : Rho := [vl (srcs L), W, vl (.int m), .val (.lst ((rowsP L).map rowD)) false, .non, vl (.int r.1), vl (.int r.2.1), vl (.lst (r.2.2.map .int)), .non]
    refine ⟨ρ3, three_g rfl rfl rfl, ?_, rfl, fun _ => ⟨_, _, _, tup_ok (ev_two rfl rfl) rfl, rfl, rfl⟩⟩
    have hh := (of_row g.toGood hr').2
    have hs := wsum_c (ws := ws) (l := r.2.2) (a := 7) (b := 1) (c := 8) (ρ := ρ3) (by
      rw [hh, hav_len]
      have := List.length_filter_le (hasB r.1) L
      omega) (by rw [hh, hw]; exact hav_lt) rfl (fun i _ => ⟨[vl (srcs L), W, vl (.int m), .val (.lst ((rowsP L).map rowD)) false, .non, vl (.int r.1), vl (.int r.2.1), vl (.lst (r.2.2.map .int)), vl (.int i)], rfl, rfl, rfl⟩)
    exact nat_ok (ev_two hs rfl) rfl rfl rfl
  have hj := e_joined (((rowsP L).filter fun r => decide (m ≤ wsum ws r.2.2)).map fun r => (r.1, r.2.1)) (by
    have := List.length_filter_le (fun r : Int × Int × List Int => decide (m ≤ wsum ws r.2.2)) (rowsP L)
    rw [List.length_map]; omega)
  have hb : body_weighed ρ0 = .ret (.val (srcs (wgP L ws m))) ρ2 := by
    refine (cons_nx (chk L g rfl)).trans ((cons_nx e1).trans ((cons_nx e2).trans ((cons_nx e3).trans ?_)))
    refine (cons_nx (asg_ok (i := 3) (ρ1 := ρ0) (ρ2 := ρ0) (ρ3 := ρ1) (call_v (e_pieces L g) (ev_one rfl) rfl rfl rfl rfl) rfl rfl)).trans ?_
    exact cons_ret (ret_ok (call_v hj (ev_one c2) rfl rfl rfl rfl))
  exact run_r hb rfl rfl rfl rfl rfl
/-! the cell -/
theorem pot_own (x : Int) : nMod [.int x, .int ((10 ^ (60 : Int).toNat) ^ (5 : Int).toNat)] = some (.val (.int (x % (10 ^ (60 : Int).toNat) ^ (5 : Int).toNat))) := mod_ok (by decide)
theorem bits_big {i : Int} (h : i.natAbs < 2 ^ 2000) : (bits i : Int) ≤ 2001 := by
  unfold bits Builtin.Int.intBits
  by_cases z : i.natAbs = 0
  · have : i = 0 := by omega
    subst this; decide
  · have := (Nat.log2_lt z).mpr h
    split <;> omega
end Sa

namespace Sa
open PySem L2

/-! ## The law's ends: cells, pot; texts that are alike -/
theorem e_cells (ns : List Int) : ∃ k : Nat, k ≤ 2 ∧ fn__law_cells [vl (.lst (ns.map .int)), vl (.int 2)] = .ok (.new (.lst ((List.range k).map fun (i : Nat) => .int (i : Int)))) [vl (.lst (ns.map .int)), vl (.int 2)] := by
  let ρ0 : Rho := [vl (.lst (ns.map .int)), vl (.int 2)]
  have h1 : sNat nLen [sVar 0] ρ0 = .ok (.val (.int (ns.length : Int))) ρ0 := nat_ok (ds := [.lst (ns.map .int)]) (ev_one rfl) rfl (o := .val (.int (ns.length : Int))) (by simp only [nLen, List.length_map]) rfl
  have h2 : sNat nMin2 [sVar 1, sNat nLen [sVar 0]] ρ0 = .ok (.val (.int (min 2 (ns.length : Int)))) ρ0 := nat_ok (ev_two rfl h1) rfl (min2_ok _ _) rfl
  have h3 : sNat nMax2 [sC (.int 1), sNat nMin2 [sVar 1, sNat nLen [sVar 0]]] ρ0 = .ok (.val (.int (max 1 (min 2 (ns.length : Int))))) ρ0 := nat_ok (ev_two rfl h2) rfl (max2_ok _ _) rfl
  obtain ⟨k, hk⟩ : ∃ k : Nat, max 1 (min 2 (ns.length : Int)) = (k : Int) := ⟨(max 1 (min 2 (ns.length : Int))).toNat, by omega⟩
  rw [hk] at h3
  refine ⟨k, by omega, ?_⟩
  have hz : okRg 0 (k : Int) = true := by
    unfold okRg okR
    rw [decide_eq_true (by omega), decide_eq_true (by omega), decide_eq_true (by omega), decide_eq_true (by omega), decide_eq_true (by omega)]; rfl
  have e : rangeD 0 (k : Int).toNat = (List.range k).map fun (i : Nat) => D.int (i : Int) := by
    rw [rangeD_map, Int.toNat_natCast]; exact List.map_congr_left fun i _ => by rw [Int.zero_add]
  have hb : body__law_cells ρ0 = .ret (.new (.lst ((List.range k).map fun (i : Nat) => .int (i : Int)))) ρ0 := by
    refine cons_ret (ret_ok (nat_ok (ev_one h3) rfl (o := .new (.lst ((List.range k).map fun (i : Nat) => .int (i : Int)))) ?_ rfl))
    simp only [nLR1, guard', hz, if_true, e]
  exact run_r hb rfl rfl rfl rfl rfl
theorem p60 : nPow [.int 10, .int 60] = some (.val (.int (10 ^ 60))) := by
  simp only [nPow, guard']; rw [if_pos (by decide +kernel)]; rfl
theorem p300 : nPow [.int (10 ^ 60), .int 5] = some (.val (.int ((10 ^ 60) ^ 5))) := by
  simp only [nPow, guard']; rw [if_pos (by decide +kernel)]; rfl
theorem p18 : nPow [.int 10, .int 18] = some (.val (.int (10 ^ 18))) := by
  simp only [nPow, guard']; rw [if_pos (by decide +kernel)]; rfl
theorem big0 : ((10 : Int) ^ 60) ^ 5 < 2 ^ 2000 := by decide +kernel
theorem big1 : (0 : Int) < ((10 : Int) ^ 60) ^ 5 := by decide +kernel
theorem e_pot (ns : List Int) (pl : Int) (h0 : 0 ≤ pl) (h1 : pl ≤ 1000) : ∃ pot : List D, fn__law_pot [vl (.lst (ns.map .int)), vl (.int pl)] = .ok (.new (.lst pot)) [vl (.lst (ns.map .int)), vl (.int pl)] ∧ PotOk 0 pot := by
  let S : Sl := vl (.lst (ns.map .int))
  let ρ0 : Rho := [S, vl (.int pl), .non, .non, .non]
  have hl : sNat nLen [sVar 0] ρ0 = .ok (.val (.int (ns.length : Int))) ρ0 := nat_ok (ds := [.lst (ns.map .int)]) (ev_one rfl) rfl (o := .val (.int (ns.length : Int))) (by simp only [nLen, List.length_map]) rfl
  have hx : ∃ x : Int, sIf (sNat nLt [sVar 1, sNat nLen [sVar 0]]) (sNat nIdx [sVar 0, sVar 1]) (sNat nAdd [sNat nMul [sC (.int 67), sVar 1], sC (.int 31)]) ρ0 = .ok (.val (.int x)) ρ0 := by
    have hc : sNat nLt [sVar 1, sNat nLen [sVar 0]] ρ0 = .ok (.val (.bl (decide (pl < (ns.length : Int))))) ρ0 := nat_ok (ev_two rfl hl) rfl rfl rfl
    by_cases q : pl < (ns.length : Int)
    · rw [decide_eq_true q] at hc
      have hk : pl.toNat < ns.length := by omega
      have hi : ixN (ns.map D.int).length pl = some pl.toNat := by
        unfold ixN
        rw [if_pos h0, if_pos (by simpa using q)]
      refine ⟨ns[pl.toNat], if_tt hc (nat_ok (ds := [.lst (ns.map .int), .int pl]) (ev_two rfl rfl) rfl (o := .val (.int ns[pl.toNat])) ?_ rfl)⟩
      simp only [nIdx, atI, hi, Option.bind_some, List.getElem?_map, List.getElem?_eq_getElem hk, Option.map_some]
    · rw [decide_eq_false q] at hc
      have z : sNat nMul [sC (.int 67), sVar 1] ρ0 = .ok (.val (.int (67 * pl))) ρ0 := nat_ok (ev_two rfl rfl) rfl (mul_ok (by decide) (natAbs_lt h0 (by omega))) rfl
      exact ⟨67 * pl + 31, if_ff hc (nat_ok (ev_two z rfl) rfl rfl rfl)⟩
  obtain ⟨x, hx⟩ := hx
  let ρ1 : Rho := [S, vl (.int pl), vl (.int x), .non, .non]
  have ha : sNat nAbs [sVar 2] ρ1 = .ok (.val (.int (if x < 0 then -x else x))) ρ1 := nat_ok (ev_one rfl) rfl rfl rfl
  obtain ⟨ax, hax⟩ : ∃ ax : Int, (if x < 0 then -x else x) = ax := ⟨_, rfl⟩
  rw [hax] at ha
  have hia : sNat nInt [sNat nAbs [sVar 2]] ρ1 = .ok (.val (.int ax)) ρ1 := nat_ok (ev_one ha) rfl rfl rfl
  have hp1 : sNat nPow [sC (.int 10), sC (.int 60)] ρ1 = .ok (.val (.int (10 ^ 60))) ρ1 := nat_ok (ev_two rfl rfl) rfl p60 rfl
  have hp2 : sNat nPow [sNat nPow [sC (.int 10), sC (.int 60)], sC (.int 5)] ρ1 = .ok (.val (.int ((10 ^ 60) ^ 5))) ρ1 := nat_ok (ev_two hp1 rfl) rfl p300 rfl
  have hm : sNat nMod [sNat nInt [sNat nAbs [sVar 2]], sNat nPow [sNat nPow [sC (.int 10), sC (.int 60)], sC (.int 5)]] ρ1 = .ok (.val (.int (ax % (10 ^ 60) ^ 5))) ρ1 := nat_ok (ev_two hia hp2) rfl (mod_ok big1) rfl
  have hq : sNat nPow [sC (.int 10), sC (.int 18)] ρ1 = .ok (.val (.int (10 ^ 18))) ρ1 := nat_ok (ev_two rfl rfl) rfl p18 rfl
  have hg : sNat nGe [sNat nAbs [sVar 2], sNat nPow [sC (.int 10), sC (.int 18)]] ρ1 = .ok (.val (.bl (decide ((10 : Int) ^ 18 ≤ ax)))) ρ1 := nat_ok (ev_two ha hq) rfl rfl rfl
  have hb : ∃ b : Int, (b = 0 ∨ b = 1) ∧ sNat nInt [sNat nGe [sNat nAbs [sVar 2], sNat nPow [sC (.int 10), sC (.int 18)]]] ρ1 = .ok (.val (.int b)) ρ1 := by
    by_cases q : (10 : Int) ^ 18 ≤ ax
    · rw [decide_eq_true q] at hg
      exact ⟨1, .inr rfl, nat_ok (ev_one hg) rfl rfl rfl⟩
    · rw [decide_eq_false q] at hg
      exact ⟨0, .inl rfl, nat_ok (ev_one hg) rfl rfl rfl⟩
  obtain ⟨b, hb01, hb⟩ := hb
  have y0 : 0 ≤ ax % (10 ^ 60) ^ 5 := Int.emod_nonneg _ (by have := big1; omega)
  have y1 : ax % (10 ^ 60) ^ 5 < (10 ^ 60) ^ 5 := Int.emod_lt_of_pos _ big1
  have y2 := big0
  obtain ⟨y, hy⟩ : ∃ y, ax % (10 ^ 60) ^ 5 = y := ⟨_, rfl⟩
  rw [hy] at hm y0 y1
  have hmul : nMul [.int y, .int b] = some (.val (.int (y * b))) := by
    have b1 := bits_big (i := y) (by
      have : y < 2 ^ 2000 := Int.lt_trans y1 y2
      omega)
    have b2 := bits_small (i := b) (by rcases hb01 with z | z <;> subst z <;> decide)
    simp only [nMul, guard']
    rw [if_pos (decide_eq_true (by omega))]
  have ho : sNat nMul [sNat nMod [sNat nInt [sNat nAbs [sVar 2]], sNat nPow [sNat nPow [sC (.int 10), sC (.int 60)], sC (.int 5)]], sNat nInt [sNat nGe [sNat nAbs [sVar 2], sNat nPow [sC (.int 10), sC (.int 18)]]]] ρ1 = .ok (.val (.int (y * b))) ρ1 := nat_ok (ev_two hm hb) rfl hmul rfl
  let ρ2 : Rho := [S, vl (.int pl), vl (.int x), vl (.int (y * b)), .non]
  have hs : sNat nMod [sNat nInt [sVar 2], sC (.int 2305843009213693951)] ρ2 = .ok (.val (.int (x % 2305843009213693951))) ρ2 := by
    have z : sNat nInt [sVar 2] ρ2 = .ok (.val (.int x)) ρ2 := nat_ok (ev_one rfl) rfl rfl rfl
    exact nat_ok (ev_two z rfl) rfl (mod_ok (by decide)) rfl
  have s0 : 0 ≤ x % 2305843009213693951 := Int.emod_nonneg _ (by decide)
  have s1 : x % 2305843009213693951 < 2305843009213693951 := Int.emod_lt_of_pos _ (by decide)
  obtain ⟨sm, hsm⟩ : ∃ sm, x % 2305843009213693951 = sm := ⟨_, rfl⟩
  rw [hsm] at hs s0 s1
  let ρ3 : Rho := [S, vl (.int pl), vl (.int x), vl (.int (y * b)), vl (.int sm)]
  have pp : pl * pl ≤ 1000 * 1000 := Int.mul_le_mul h1 h1 h0 (by decide)
  have pp0 : 0 ≤ pl * pl := Int.mul_nonneg h0 h0
  have e97 : 7369 * pl * pl = 7369 * (pl * pl) := Int.mul_assoc _ _ _
  have k1 : sNat nMul [sVar 4, sC (.int 84391)] ρ3 = .ok (.val (.int (sm * 84391))) ρ3 := nat_ok (ev_two rfl rfl) rfl (mul_ok (natAbs_lt s0 (by omega)) (by decide)) rfl
  have k2 : sNat nMul [sC (.int 7369), sVar 1] ρ3 = .ok (.val (.int (7369 * pl))) ρ3 := nat_ok (ev_two rfl rfl) rfl (mul_ok (by decide) (natAbs_lt h0 (by omega))) rfl
  have k3 : sNat nMul [sNat nMul [sC (.int 7369), sVar 1], sVar 1] ρ3 = .ok (.val (.int (7369 * pl * pl))) ρ3 := nat_ok (ev_two k2 rfl) rfl (mul_ok (natAbs_lt (by omega) (by omega)) (natAbs_lt h0 (by omega))) rfl
  have k4 : sNat nAdd [sNat nMul [sVar 4, sC (.int 84391)], sNat nMul [sNat nMul [sC (.int 7369), sVar 1], sVar 1]] ρ3 = .ok (.val (.int (sm * 84391 + 7369 * pl * pl))) ρ3 := nat_ok (ev_two k1 k3) rfl rfl rfl
  have k5 : sNat nAdd [sNat nAdd [sNat nMul [sVar 4, sC (.int 84391)], sNat nMul [sNat nMul [sC (.int 7369), sVar 1], sVar 1]], sC (.int 73)] ρ3 = .ok (.val (.int (sm * 84391 + 7369 * pl * pl + 73))) ρ3 := nat_ok (ev_two k4 rfl) rfl rfl rfl
  have k6 : sNat nInt [sNat nAdd [sNat nAdd [sNat nMul [sVar 4, sC (.int 84391)], sNat nMul [sNat nMul [sC (.int 7369), sVar 1], sVar 1]], sC (.int 73)]] ρ3 = .ok (.val (.int (sm * 84391 + 7369 * pl * pl + 73))) ρ3 := nat_ok (ev_one k5) rfl rfl rfl
  have k7 : sNat nMod [sNat nInt [sNat nAdd [sNat nAdd [sNat nMul [sVar 4, sC (.int 84391)], sNat nMul [sNat nMul [sC (.int 7369), sVar 1], sVar 1]], sC (.int 73)]], sC (.int 2305843009213693921)] ρ3 = .ok (.val (.int ((sm * 84391 + 7369 * pl * pl + 73) % 2305843009213693921))) ρ3 := nat_ok (ev_two k6 rfl) rfl (mod_ok (by decide)) rfl
  refine ⟨[.int (y * b), .int ((sm * 84391 + 7369 * pl * pl + 73) % 2305843009213693921), .int 0], ?_, _, _, _, rfl, Int.emod_nonneg _ (by decide), Int.lt_trans (Int.emod_lt_of_pos _ (by decide)) (by decide), by decide, by decide⟩
  have hbody : body__law_pot ρ0 = .ret (.new (.lst [.int (y * b), .int ((sm * 84391 + 7369 * pl * pl + 73) % 2305843009213693921), .int 0])) ρ3 := by
    refine (cons_nx (asg_ok (i := 2) (ρ3 := ρ1) hx rfl rfl)).trans ?_
    refine (cons_nx (asg_ok (i := 3) (ρ3 := ρ2) ho rfl rfl)).trans ?_
    refine (cons_nx (asg_ok (i := 4) (ρ3 := ρ3) hs rfl rfl)).trans ?_
    exact cons_ret (ret_ok (lst_ok (ev_cons rfl (ev_cons k7 (ev_one rfl))) rfl))
  exact run_r hbody rfl rfl rfl rfl rfl
/-! alike texts -/
theorem repr_ok {d : D} (h : d.rsz ≤ 100000) (hd : d.py.depth ≤ 60) : nRepr [d] = some (.val (.str d.py.shown)) := by
  simp only [nRepr, guard', decide_eq_true h, decide_eq_true hd, Bool.and_self, if_true]
theorem alike {f g : SE} {F : SS} {ρ ρ1 ρ2 : Rho} {r q : R} {d : D} (hf : f ρ = .ok r ρ1) (vf : views ρ1 [r] = some [d]) (hg : g ρ1 = .ok q ρ2) (vg : views ρ2 [q] = some [d]) (h : d.rsz ≤ 100000) (hd : d.py.depth ≤ 60) : sIfS (sNat nNeS [sNat nRepr [f], sNat nRepr [g]]) F sNil ρ = .nx ρ2 := by
  have k1 : sNat nRepr [f] ρ = .ok (.val (.str d.py.shown)) ρ1 := nat_ok (ev_one hf) vf (repr_ok h hd) rfl
  have k2 : sNat nRepr [g] ρ1 = .ok (.val (.str d.py.shown)) ρ2 := nat_ok (ev_one hg) vg (repr_ok h hd) rfl
  have k3 : sNat nNeS [sNat nRepr [f], sNat nRepr [g]] ρ = .ok (.val (.bl false)) ρ2 := nat_ok (ev_two k1 k2) rfl (o := .val (.bl false)) (by simp [nNeS]) rfl
  exact (ifs_ff k3).trans rfl
def smallI (i : Int) : Prop := i.natAbs < 10 ^ 12
theorem rszs_ints : ∀ l : List Int, (∀ i ∈ l, smallI i) → D.rszs (l.map .int) ≤ 13 * l.length
  | [], _ => by simp [D.rszs]
  | a :: l, h => by
    have h1 : a.natAbs < 10 ^ 12 := h a List.mem_cons_self
    have := rszs_ints l fun i hi => h i (List.mem_cons_of_mem _ hi)
    simp only [List.map_cons, D.rszs, D.rsz, if_pos h1, List.length_cons]
    omega
theorem rsz_dT {l : List Int} (h : ∀ i ∈ l, smallI i) : (dT l).rsz ≤ 15 * l.length + 3 := by
  have := rszs_ints l h
  simp only [dT, D.rsz, List.length_map]
  omega
theorem rsz_srcD {p : Int × Int} (h1 : smallI p.1) (h2 : smallI p.2) : (srcD p).rsz = 33 := by
  have h1 : p.1.natAbs < 10 ^ 12 := h1
  have h2 : p.2.natAbs < 10 ^ 12 := h2
  simp only [srcD, D.rsz, D.rszs, if_pos h1, if_pos h2, List.length_cons, List.length_nil]
theorem rszs_srcs : ∀ l : Src, (∀ p ∈ l, smallI p.1 ∧ smallI p.2) → D.rszs (l.map srcD) ≤ 33 * l.length
  | [], _ => by simp [D.rszs]
  | p :: l, h => by
    obtain ⟨h1, h2⟩ := h p List.mem_cons_self
    have := rszs_srcs l fun i hi => h i (List.mem_cons_of_mem _ hi)
    simp only [List.map_cons, D.rszs, rsz_srcD h1 h2, List.length_cons]
    omega
theorem rsz_srcs {l : Src} (h : ∀ p ∈ l, smallI p.1 ∧ smallI p.2) : (srcs l).rsz ≤ 35 * l.length + 3 := by
  have := rszs_srcs l h
  simp only [srcs, D.rsz, List.length_map]
  omega
theorem dep_dT (l : List Int) : (dT l).py.depth = 1 := by
  simp only [dT, D.py, PyData.depth, dep_ints]
theorem dep_srcs' (l : Src) : (srcs l).py.depth ≤ 2 := by
  have := dep_srcs l
  simp only [srcs, D.py, PyData.depth]
  omega
/-- put together: no new ends, not more -/
theorem jfold_bd (B : Int → Prop) : ∀ (xs acc : Src), (∀ p ∈ xs, B p.1 ∧ B p.2) → (∀ p ∈ acc, B p.1 ∧ B p.2) → (∀ p ∈ xs.foldl jstep acc, B p.1 ∧ B p.2) ∧ (xs.foldl jstep acc).length ≤ acc.length + xs.length
  | [], acc, _, h => ⟨h, Nat.le_refl _⟩
  | x :: xs, acc, hx, ha => by
    have hx0 := hx x List.mem_cons_self
    have step : (∀ p ∈ jstep acc x, B p.1 ∧ B p.2) ∧ (jstep acc x).length ≤ acc.length + 1 := by
      unfold jstep
      cases hq : acc.getLast? with
      | none => exact ⟨fun p hp => by rw [List.mem_singleton.mp hp]; exact hx0, by simp⟩
      | some l =>
        have hl : l ∈ acc := List.mem_of_getLast? hq
        dsimp only
        split
        · refine ⟨fun p hp => ?_, by simp⟩
          rcases List.mem_append.mp hp with z | z
          · exact ha p ((List.dropLast_sublist acc).subset z)
          · rw [List.mem_singleton.mp z]; exact ⟨(ha l hl).1, hx0.2⟩
        · refine ⟨fun p hp => ?_, by simp⟩
          rcases List.mem_append.mp hp with z | z
          · exact ha p z
          · rw [List.mem_singleton.mp z]; exact hx0
    obtain ⟨a, b⟩ := jfold_bd B xs (jstep acc x) (fun p hp => hx p (List.mem_cons_of_mem _ hp)) step.1
    refine ⟨a, ?_⟩
    have := step.2
    simp only [List.foldl_cons, List.length_cons]
    omega
theorem spans_bd {ns : List Int} (h : ∀ i ∈ ns, smallI i) : (∀ p ∈ spans ns, smallI p.1 ∧ smallI p.2) ∧ (spans ns).length ≤ ns.length := by
  have := jfold_bd smallI (ns.map dup) [] (fun p hp => by
    obtain ⟨i, hi, rfl⟩ := List.mem_map.mp hp
    exact ⟨h i hi, h i hi⟩) (fun p hp => by cases hp)
  refine ⟨this.1, Nat.le_trans this.2 ?_⟩
  rw [List.length_map]
  simp
theorem eqv_ints : ∀ l : List Int, PyData.eqvAll (D.pys (l.map .int)) (D.pys (l.map .int)) = true
  | [] => rfl
  | a :: l => by
    simp only [List.map_cons, D.pys, D.py, PyData.eqvAll, eqv_ints l, PyData.eqv, Bool.and_true]
    simp
theorem eqv_srcs0 : ∀ l : Src, PyData.eqvAll (D.pys (l.map srcD)) (D.pys (l.map srcD)) = true
  | [] => rfl
  | p :: l => by
    simp only [List.map_cons, D.pys, PyData.eqvAll, eqv_srcs0 l, Bool.and_true]
    show PyData.eqv (srcD p).py (srcD p).py = true
    simp [srcD, D.py, D.pys, PyData.eqv, PyData.eqvAll]
theorem eqv_srcs (l : Src) : (srcs l).eqv (srcs l) = true := eqv_srcs0 l
theorem neS_srcs (l : Src) : nNeS [srcs l, srcs l] = some (.val (.bl false)) := by
  show nNe [srcs l, srcs l] = _
  simp only [nNe, shp_tup, eqv_srcs]
  rfl
theorem eqS_srcs (l : Src) : nEqS [srcs l, srcs l] = some (.val (.bl true)) := by
  show nEq [srcs l, srcs l] = _
  simp only [nEq, shp_tup, eqv_srcs]
  rfl
end Sa

namespace Sa
open PySem L2

/-! ## Trimmed ends; how wide -/
/-- in a sorted list, the i-th is at most x just if more than i are -/
theorem sorted_le {x : Int} : ∀ {s : List Int} {i : Nat} (hi : i < s.length), s.Pairwise (· ≤ ·) → (s[i] ≤ x ↔ i < s.countP fun y => decide (y ≤ x))
  | [], i, hi, _ => by simp at hi
  | a :: s, 0, hi, h => by
    simp only [List.getElem_cons_zero, List.countP_cons]
    constructor
    · intro q; rw [if_pos (decide_eq_true q)]; omega
    · intro q
      by_cases z : a ≤ x
      · exact z
      · rw [if_neg (by simpa using z)] at q
        obtain ⟨y, hy, e⟩ := List.countP_pos_iff.mp (show 0 < s.countP fun y => decide (y ≤ x) by omega)
        have := (List.pairwise_cons.mp h).1 y hy
        have := of_decide_eq_true e
        omega
  | a :: s, i + 1, hi, h => by
    obtain ⟨h1, h2⟩ := List.pairwise_cons.mp h
    have hi' : i < s.length := by simpa using hi
    have ih := sorted_le (x := x) hi' h2
    simp only [List.getElem_cons_succ, List.countP_cons]
    by_cases z : a ≤ x
    · rw [if_pos (decide_eq_true z), ih]; omega
    · rw [if_neg (by simpa using z), ih]
      constructor
      · intro q
        have := h1 s[i] (List.getElem_mem _)
        have := ih.mpr q
        omega
      · intro q; omega
theorem sortI_le {x : Int} {l : List Int} {i : Nat} (hi : i < (sortI l).length) : ((sortI l)[i] ≤ x ↔ i < l.countP fun y => decide (y ≤ x)) := by
  rw [sorted_le hi (sortI_pw l), (sortI_perm l).countP_eq]
theorem sortI_len (l : List Int) : (sortI l).length = l.length := (sortI_perm l).length_eq
/-- the greatest, taken out -/
theorem max_out {l s : List Int} {x : Int} (hp : l.Perm (s ++ [x])) (hs : (s ++ [x]).Pairwise (· ≤ ·)) : maxL l = x ∧ (l.erase x).Perm s := by
  have hx : x ∈ l := hp.mem_iff.mpr (by simp)
  refine ⟨(max_one hx fun y hy => ?_).symm, ?_⟩
  · rcases List.mem_append.mp (hp.mem_iff.mp hy) with z | z
    · exact (List.pairwise_append.mp hs).2.2 y z x (by simp)
    · rw [List.mem_singleton.mp z]; exact Int.le_refl _
  · have h1 := hp.erase x
    refine h1.trans ?_
    have h2 : (s ++ [x]).Perm (x :: s) := List.perm_append_comm
    have h3 := h2.erase x
    rw [List.erase_cons_head] at h3
    exact h3
theorem min_out {l s : List Int} {x : Int} (hp : l.Perm (x :: s)) (hs : (x :: s).Pairwise (· ≤ ·)) : minL l = x ∧ (l.erase x).Perm s := by
  have hx : x ∈ l := hp.mem_iff.mpr List.mem_cons_self
  refine ⟨(min_one hx fun y hy => ?_).symm, ?_⟩
  · rcases List.mem_cons.mp (hp.mem_iff.mp hy) with z | z
    · rw [z]; exact Int.le_refl _
    · exact (List.pairwise_cons.mp hs).1 y z
  · have h1 := hp.erase x
    rw [List.erase_cons_head] at h1
    exact h1
/-- the k greatest taken out: what is left are the first of the sorted ones -/
theorem max_take {l m : List Int} {k : Nat} (h : m.Perm ((sortI l).take (l.length - k))) (hk : k < l.length) : maxL m = (sortI l)[l.length - 1 - k]'(by rw [sortI_len]; omega) ∧ (m.erase (maxL m)).Perm ((sortI l).take (l.length - (k + 1))) := by
  have hi : l.length - 1 - k < (sortI l).length := by rw [sortI_len]; omega
  have e : (sortI l).take (l.length - k) = (sortI l).take (l.length - (k + 1)) ++ [(sortI l)[l.length - 1 - k]] := by
    have z : l.length - k = (l.length - 1 - k) + 1 := by omega
    rw [z, List.take_add_one, List.getElem?_eq_getElem hi]
    have z2 : l.length - (k + 1) = l.length - 1 - k := by omega
    rw [z2]; rfl
  rw [e] at h
  have pw : ((sortI l).take (l.length - (k + 1)) ++ [(sortI l)[l.length - 1 - k]]).Pairwise (· ≤ ·) := by
    rw [← e]
    exact (sortI_pw l).sublist (List.take_sublist _ _)
  obtain ⟨a, b⟩ := max_out h pw
  exact ⟨a, by rw [a]; exact b⟩
theorem min_drop {l m : List Int} {k : Nat} (h : m.Perm ((sortI l).drop k)) (hk : k < l.length) : minL m = (sortI l)[k]'(by rw [sortI_len]; exact hk) ∧ (m.erase (minL m)).Perm ((sortI l).drop (k + 1)) := by
  have hi : k < (sortI l).length := by rw [sortI_len]; exact hk
  have e : (sortI l).drop k = (sortI l)[k] :: (sortI l).drop (k + 1) := List.drop_eq_getElem_cons hi
  rw [e] at h
  have pw : ((sortI l)[k] :: (sortI l).drop (k + 1)).Pairwise (· ≤ ·) := by
    rw [← e]
    exact (sortI_pw l).sublist (List.drop_sublist _ _)
  obtain ⟨a, b⟩ := min_out h pw
  exact ⟨a, by rw [a]; exact b⟩
theorem last_app {α : Type} (l : List α) (x : α) : (l ++ [x]).getLast? = some x := by simp
/-- the ends of spans of ascending numbers -/
theorem spans_ends {a : Int} {l : List Int} : ∃ p q, (spans (a :: l)).head? = some p ∧ p.1 = a ∧ (spans (a :: l)).getLast? = some q ∧ q.2 = (a :: l).getLast (by simp) := by
  have key : ∀ (l : List Int) (acc : Src) (p q : Int × Int), acc.head? = some p → acc.getLast? = some q → ∃ q', ((l.map dup).foldl jstep acc).head?.map (·.1) = some p.1 ∧ ((l.map dup).foldl jstep acc).getLast? = some q' ∧ q'.2 = (q.2 :: l).getLast (by simp) := by
    intro l
    induction l with
    | nil => intro acc p q h1 h2; exact ⟨q, by simp [h1], by simpa using h2, by simp⟩
    | cons x l ih =>
      intro acc p q h1 h2
      simp only [List.map_cons, List.foldl_cons]
      have hj : ∃ p' q', (jstep acc (dup x)).head? = some p' ∧ p'.1 = p.1 ∧ (jstep acc (dup x)).getLast? = some q' ∧ q'.2 = x := by
        unfold jstep
        rw [h2]
        dsimp only
        split
        · cases acc with
          | nil => simp at h1
          | cons b acc =>
            cases acc with
            | nil =>
              simp at h1 h2
              subst h1
              subst h2
              exact ⟨(b.1, x), (b.1, x), by simp [dup], rfl, by simp [dup], rfl⟩
            | cons c acc =>
              simp at h1
              subst h1
              exact ⟨b, (q.1, x), by simp, rfl, by simp only [List.dropLast_cons₂, List.cons_append, dup]; exact last_app (b :: (c :: acc).dropLast) (q.1, x), rfl⟩
        · cases acc with
          | nil => simp at h1
          | cons b acc =>
            simp at h1
            subst h1
            exact ⟨b, dup x, by simp, rfl, last_app (b :: acc) (dup x), rfl⟩
      obtain ⟨p', q', e1, e2, e3, e4⟩ := hj
      obtain ⟨q2, f1, f2, f3⟩ := ih (jstep acc (dup x)) p' q' e1 e3
      refine ⟨q2, by rw [f1, e2], f2, ?_⟩
      rw [f3, e4]
      simp
  obtain ⟨q', h1, h2, h3⟩ := key l [dup a] (dup a) (dup a) rfl rfl
  have e : spans (a :: l) = (l.map dup).foldl jstep [dup a] := rfl
  rw [e]
  cases hh : ((l.map dup).foldl jstep [dup a]).head? with
  | none => rw [hh] at h1; simp at h1
  | some p =>
    rw [hh] at h1
    exact ⟨p, q', rfl, by simpa [dup] using h1, h2, h3⟩
end Sa

namespace Sa
open PySem L2

/-! ## Trimmed ends of sources -/
def tlo (L : Src) (w : Nat) : Int := (sortI (lows L)).getD (L.length - 1 - w) 0
def thi (L : Src) (w : Nat) : Int := (sortI (highs L)).getD w 0
theorem lows_len (L : Src) : (lows L).length = L.length := by unfold lows; rw [List.length_map]
theorem highs_len (L : Src) : (highs L).length = L.length := by unfold highs; rw [List.length_map]
theorem tlo_le {L : Src} {w : Nat} {x : Int} (h : w < L.length) : tlo L w ≤ x ↔ L.length - 1 - w < L.countP fun p => decide (p.1 ≤ x) := by
  have hi : L.length - 1 - w < (sortI (lows L)).length := by rw [sortI_len, lows_len]; omega
  unfold tlo
  rw [List.getD_eq_getElem?_getD, List.getElem?_eq_getElem hi, Option.getD_some, sortI_le hi]
  unfold lows
  rw [List.countP_map]; rfl
theorem thi_le {L : Src} {w : Nat} {x : Int} (h : w < L.length) : thi L w ≤ x ↔ w < L.countP fun p => decide (p.2 ≤ x) := by
  have hi : w < (sortI (highs L)).length := by rw [sortI_len, highs_len]; omega
  unfold thi
  rw [List.getD_eq_getElem?_getD, List.getElem?_eq_getElem hi, Option.getD_some, sortI_le hi]
  unfold highs
  rw [List.countP_map]; rfl
theorem count_low (L : Src) (x : Int) : (L.filter (hasB x)).length ≤ L.countP fun p => decide (p.1 ≤ x) := by
  rw [← List.countP_eq_length_filter]
  refine List.countP_mono_left fun p _ hp => ?_
  unfold hasB at hp
  exact (Bool.and_eq_true_iff.mp hp).1
theorem count_high (L : Src) (x : Int) : (L.filter (hasB x)).length + (L.countP fun p => decide (p.2 ≤ x - 1)) ≤ L.length := by
  induction L with
  | nil => simp
  | cons p L ih =>
    rw [List.filter_cons, List.countP_cons, List.length_cons]
    by_cases q : p.2 ≤ x - 1
    · have : hasB x p = false := by unfold hasB; rw [decide_eq_false (show ¬ x ≤ p.2 by omega), Bool.and_false]
      rw [this, if_neg (by simp), if_pos (decide_eq_true q)]
      omega
    · rw [if_neg (show ¬ (decide (p.2 ≤ x - 1) = true) by simpa using q)]
      split
      · simp only [List.length_cons]; omega
      · omega
/-- where enough have it, it lies between -/
theorem between {L : Src} {w : Nat} {x : Int} (h : w < L.length) (hc : L.length ≤ (L.filter (hasB x)).length + w) : tlo L w ≤ x ∧ x ≤ thi L w := by
  have h1 := count_low L x
  have h2 := count_high L x
  refine ⟨(tlo_le h).mpr (by omega), ?_⟩
  rcases Int.lt_or_le (thi L w) x with z | z
  · have := (thi_le (x := x - 1) h).mp (by omega)
    omega
  · exact z
/-- one end moved -/
theorem moved_lo {X Y : Src} {a b k : Int} {w : Nat} (hk : 0 ≤ k) (h : w < (X ++ (a, b) :: Y).length) :
    tlo (X ++ (a - k, b) :: Y) w ≤ tlo (X ++ (a, b) :: Y) w ∧ tlo (X ++ (a, b) :: Y) w - k ≤ tlo (X ++ (a - k, b) :: Y) w ∧ thi (X ++ (a - k, b) :: Y) w = thi (X ++ (a, b) :: Y) w := by
  have hl : (X ++ (a - k, b) :: Y).length = (X ++ (a, b) :: Y).length := by simp
  have h' : w < (X ++ (a - k, b) :: Y).length := by rw [hl]; exact h
  refine ⟨?_, ?_, ?_⟩
  · refine (tlo_le h').mpr ?_
    have q := (tlo_le h).mp (Int.le_refl (tlo (X ++ (a, b) :: Y) w))
    rw [hl]
    refine Nat.lt_of_lt_of_le q ?_
    rw [List.countP_append, List.countP_append, List.countP_cons, List.countP_cons]
    have : (if decide (a ≤ tlo (X ++ (a, b) :: Y) w) = true then 1 else 0) ≤ (if decide (a - k ≤ tlo (X ++ (a, b) :: Y) w) = true then 1 else 0) := by
      by_cases z : a ≤ tlo (X ++ (a, b) :: Y) w
      · rw [if_pos (decide_eq_true z), if_pos (decide_eq_true (by omega))]; exact Nat.le_refl _
      · rw [if_neg (by simpa using z)]; exact Nat.zero_le _
    simp only at this ⊢
    omega
  · have q := (tlo_le h').mp (Int.le_refl (tlo (X ++ (a - k, b) :: Y) w))
    rw [hl] at q
    have := (tlo_le (x := tlo (X ++ (a - k, b) :: Y) w + k) h).mpr (Nat.lt_of_lt_of_le q ?_)
    · omega
    · generalize tlo (X ++ (a - k, b) :: Y) w = t
      rw [List.countP_append, List.countP_append, List.countP_cons, List.countP_cons]
      have m1 : X.countP (fun p => decide (p.1 ≤ t)) ≤ X.countP (fun p => decide (p.1 ≤ t + k)) := List.countP_mono_left fun p _ hp => decide_eq_true (by have := of_decide_eq_true hp; omega)
      have m2 : Y.countP (fun p => decide (p.1 ≤ t)) ≤ Y.countP (fun p => decide (p.1 ≤ t + k)) := List.countP_mono_left fun p _ hp => decide_eq_true (by have := of_decide_eq_true hp; omega)
      have m3 : (if decide (a - k ≤ t) = true then 1 else 0) = (if decide (a ≤ t + k) = true then 1 else 0) := by
        rw [show decide (a - k ≤ t) = decide (a ≤ t + k) from decide_eq_decide.mpr (by constructor <;> intro z <;> omega)]
      simp only at m3 ⊢
      omega
  · unfold thi highs
    simp
theorem moved_hi {X Y : Src} {a b k : Int} {w : Nat} (hk : 0 ≤ k) (h : w < (X ++ (a, b) :: Y).length) :
    thi (X ++ (a, b) :: Y) w ≤ thi (X ++ (a, b + k) :: Y) w ∧ thi (X ++ (a, b + k) :: Y) w ≤ thi (X ++ (a, b) :: Y) w + k ∧ tlo (X ++ (a, b + k) :: Y) w = tlo (X ++ (a, b) :: Y) w := by
  have hl : (X ++ (a, b + k) :: Y).length = (X ++ (a, b) :: Y).length := by simp
  have h' : w < (X ++ (a, b + k) :: Y).length := by rw [hl]; exact h
  refine ⟨?_, ?_, ?_⟩
  · refine (thi_le h).mpr ?_
    have q := (thi_le h').mp (Int.le_refl (thi (X ++ (a, b + k) :: Y) w))
    refine Nat.lt_of_lt_of_le q ?_
    generalize thi (X ++ (a, b + k) :: Y) w = t
    rw [List.countP_append, List.countP_append, List.countP_cons, List.countP_cons]
    have : (if decide (b + k ≤ t) = true then 1 else 0) ≤ (if decide (b ≤ t) = true then 1 else 0) := by
      by_cases z : b + k ≤ t
      · rw [if_pos (decide_eq_true z), if_pos (decide_eq_true (by omega))]; exact Nat.le_refl _
      · rw [if_neg (by simpa using z)]; exact Nat.zero_le _
    simp only at this ⊢
    omega
  · have q := (thi_le h).mp (Int.le_refl (thi (X ++ (a, b) :: Y) w))
    refine (thi_le h').mpr (Nat.lt_of_lt_of_le q ?_)
    generalize thi (X ++ (a, b) :: Y) w = t
    rw [List.countP_append, List.countP_append, List.countP_cons, List.countP_cons]
    have m1 : X.countP (fun p => decide (p.2 ≤ t)) ≤ X.countP (fun p => decide (p.2 ≤ t + k)) := List.countP_mono_left fun p _ hp => decide_eq_true (by have := of_decide_eq_true hp; omega)
    have m2 : Y.countP (fun p => decide (p.2 ≤ t)) ≤ Y.countP (fun p => decide (p.2 ≤ t + k)) := List.countP_mono_left fun p _ hp => decide_eq_true (by have := of_decide_eq_true hp; omega)
    have m3 : (if decide (b ≤ t) = true then 1 else 0) = (if decide (b + k ≤ t + k) = true then 1 else 0) := by
      rw [show decide (b ≤ t) = decide (b + k ≤ t + k) from decide_eq_decide.mpr (by constructor <;> intro z <;> omega)]
    simp only at m3 ⊢
    omega
  · unfold tlo lows
    simp
/-! ### one source that has both, all three -/
theorem two_have {L : Src} {p q : Int × Int → Bool} (h : L.length < (L.filter p).length + (L.filter q).length) : ∃ x ∈ L, p x = true ∧ q x = true := by
  induction L with
  | nil => simp at h
  | cons a L ih =>
    rw [List.filter_cons, List.filter_cons, List.length_cons] at h
    by_cases hp : p a = true
    · by_cases hq : q a = true
      · exact ⟨a, List.mem_cons_self, hp, hq⟩
      · rw [if_pos hp, if_neg hq] at h
        simp only [List.length_cons] at h
        obtain ⟨x, hx, r⟩ := ih (by omega)
        exact ⟨x, List.mem_cons_of_mem _ hx, r⟩
    · rw [if_neg hp] at h
      have : (if q a = true then a :: L.filter q else L.filter q).length ≤ (L.filter q).length + 1 := by split <;> simp
      obtain ⟨x, hx, r⟩ := ih (by omega)
      exact ⟨x, List.mem_cons_of_mem _ hx, r⟩
theorem three_have {L : Src} {p q r : Int × Int → Bool} (h : 2 * L.length < (L.filter p).length + (L.filter q).length + (L.filter r).length) : ∃ x ∈ L, p x = true ∧ q x = true ∧ r x = true := by
  induction L with
  | nil => simp at h
  | cons a L ih =>
    by_cases ha : p a = true ∧ q a = true ∧ r a = true
    · exact ⟨a, List.mem_cons_self, ha⟩
    · have : ((a :: L).filter p).length + ((a :: L).filter q).length + ((a :: L).filter r).length ≤ (L.filter p).length + (L.filter q).length + (L.filter r).length + 2 := by
        rw [List.filter_cons, List.filter_cons, List.filter_cons]
        by_cases h1 : p a = true <;> by_cases h2 : q a = true <;> by_cases h3 : r a = true <;> simp only [h1, h2, h3, if_true, if_false, List.length_cons, Bool.false_eq_true] <;> first | omega | exact absurd ⟨h1, h2, h3⟩ ha
      rw [List.length_cons] at h
      obtain ⟨x, hx, z⟩ := ih (by omega)
      exact ⟨x, List.mem_cons_of_mem _ hx, z⟩
end Sa

namespace Sa
open PySem L2

/-! ## Spans that stand apart -/
def InS (n : Int) (xs : Src) : Prop := ∃ p ∈ xs, p.1 ≤ n ∧ n ≤ p.2
structure Sep (xs : Src) : Prop where
  le : ∀ p ∈ xs, p.1 ≤ p.2
  pw : xs.Pairwise fun p q => p.2 + 1 < q.1
theorem Sep.tail {x : Int × Int} {xs : Src} (h : Sep (x :: xs)) : Sep xs := ⟨fun p hp => h.le p (List.mem_cons_of_mem _ hp), (List.pairwise_cons.mp h.pw).2⟩
theorem inS_cons {n : Int} {x : Int × Int} {xs : Src} : InS n (x :: xs) ↔ (x.1 ≤ n ∧ n ≤ x.2) ∨ InS n xs := by
  constructor
  · rintro ⟨p, hp, h⟩
    rcases List.mem_cons.mp hp with e | e
    · subst e; exact .inl h
    · exact .inr ⟨p, e, h⟩
  · rintro (h | ⟨p, hp, h⟩)
    · exact ⟨x, List.mem_cons_self, h⟩
    · exact ⟨p, List.mem_cons_of_mem _ hp, h⟩
theorem inS_app {n : Int} {xs ys : Src} : InS n (xs ++ ys) ↔ InS n xs ∨ InS n ys := by
  induction xs with
  | nil => exact ⟨.inr, fun h => h.elim (fun ⟨p, hp, _⟩ => by cases hp) id⟩
  | cons x xs ih => rw [List.cons_append, inS_cons, inS_cons, ih, or_assoc]
theorem inS_one {n : Int} {p : Int × Int} : InS n [p] ↔ p.1 ≤ n ∧ n ≤ p.2 := by
  rw [inS_cons]
  exact ⟨fun h => h.elim id (fun ⟨q, hq, _⟩ => by cases hq), .inl⟩
theorem sep_nil : Sep [] := ⟨fun p hp => (by cases hp), .nil⟩
theorem jstep_sep {acc : Src} {n : Int} (h : Sep acc) (hn : ∀ p ∈ acc, p.2 < n) : Sep (jstep acc (dup n)) ∧ (∀ p ∈ jstep acc (dup n), p.2 ≤ n) ∧ ∀ m, InS m (jstep acc (dup n)) ↔ InS m acc ∨ m = n := by
  unfold jstep
  cases q : acc.getLast? with
  | none =>
    have e : acc = [] := List.getLast?_eq_none_iff.mp q
    subst e
    refine ⟨⟨fun p hp => ?_, List.pairwise_singleton _ _⟩, fun p hp => ?_, fun m => ?_⟩
    · rw [List.mem_singleton.mp hp]; exact Int.le_refl _
    · rw [List.mem_singleton.mp hp]; exact Int.le_refl _
    · show InS m [dup n] ↔ _
      rw [inS_one]
      show n ≤ m ∧ m ≤ n ↔ _
      constructor
      · intro h; right; omega
      · rintro (⟨p, hp, _⟩ | h)
        · cases hp
        · omega
  | some l =>
    obtain ⟨A, rfl⟩ := List.getLast?_eq_some_iff.mp q
    obtain ⟨pA, _, pl⟩ := List.pairwise_append.mp h.pw
    have hl := h.le l (by simp)
    have hln := hn l (by simp)
    show _ ∧ _ ∧ _
    by_cases z : l.2 + 1 = n
    · have ei : (if l.2 + 1 = (dup n).1 then (A ++ [l]).dropLast ++ [(l.1, (dup n).2)] else A ++ [l] ++ [dup n]) = A ++ [(l.1, n)] := (if_pos z).trans (by rw [List.dropLast_concat]; rfl)
      simp only [ei]
      refine ⟨⟨fun p hp => ?_, List.pairwise_append.mpr ⟨pA, List.pairwise_singleton _ _, fun a ha b hb => ?_⟩⟩, fun p hp => ?_, fun m => ?_⟩
      · rcases List.mem_append.mp hp with e | e
        · exact h.le p (List.mem_append_left _ e)
        · rw [List.mem_singleton.mp e]; show l.1 ≤ n; omega
      · rw [List.mem_singleton.mp hb]; exact pl a ha l (by simp)
      · rcases List.mem_append.mp hp with e | e
        · exact Int.le_of_lt (hn p (List.mem_append_left _ e))
        · rw [List.mem_singleton.mp e]; exact Int.le_refl n
      · rw [inS_app, inS_app, inS_one, inS_one, or_assoc]
        refine or_congr Iff.rfl ?_
        show l.1 ≤ m ∧ m ≤ n ↔ _
        omega
    · have ei : (if l.2 + 1 = (dup n).1 then (A ++ [l]).dropLast ++ [(l.1, (dup n).2)] else A ++ [l] ++ [dup n]) = A ++ [l] ++ [dup n] := if_neg z
      simp only [ei]
      refine ⟨⟨fun p hp => ?_, List.pairwise_append.mpr ⟨h.pw, List.pairwise_singleton _ _, fun a ha b hb => ?_⟩⟩, fun p hp => ?_, fun m => ?_⟩
      · rcases List.mem_append.mp hp with e | e
        · exact h.le p e
        · rw [List.mem_singleton.mp e]; exact Int.le_refl n
      · rw [List.mem_singleton.mp hb]
        show a.2 + 1 < n
        rcases List.mem_append.mp ha with e | e
        · have := pl a e l (by simp); omega
        · rw [List.mem_singleton.mp e]; omega
      · rcases List.mem_append.mp hp with e | e
        · exact Int.le_of_lt (hn p e)
        · rw [List.mem_singleton.mp e]; exact Int.le_refl n
      · rw [inS_app (ys := [dup n]), inS_one]
        refine or_congr Iff.rfl ?_
        show n ≤ m ∧ m ≤ n ↔ _
        omega
theorem jfold_sep : ∀ (ns : List Int) (acc : Src), ns.Pairwise (· < ·) → Sep acc → (∀ p ∈ acc, ∀ n ∈ ns, p.2 < n) → Sep ((ns.map dup).foldl jstep acc) ∧ ∀ m, InS m ((ns.map dup).foldl jstep acc) ↔ InS m acc ∨ m ∈ ns
  | [], acc, _, h, _ => ⟨h, fun m => by simp⟩
  | n :: ns, acc, pw, h, hn => by
    obtain ⟨h1, h2⟩ := List.pairwise_cons.mp pw
    obtain ⟨a, b, c⟩ := jstep_sep h fun p hp => hn p hp n List.mem_cons_self
    obtain ⟨d, e⟩ := jfold_sep ns (jstep acc (dup n)) h2 a fun p hp m hm => by
      have := b p hp
      have := h1 m hm
      omega
    refine ⟨d, fun m => ?_⟩
    rw [List.map_cons, List.foldl_cons, e m, c m, List.mem_cons, or_assoc]
theorem spans_sep {ns : List Int} (h : ns.Pairwise (· < ·)) : Sep (spans ns) := (jfold_sep ns [] h sep_nil (fun p hp => by cases hp)).1
theorem spans_in {ns : List Int} (h : ns.Pairwise (· < ·)) {n : Int} : InS n (spans ns) ↔ n ∈ ns := by
  have := (jfold_sep ns [] h sep_nil (fun p hp => by cases hp)).2 n
  exact this.trans ⟨fun h => h.elim (fun ⟨p, hp, _⟩ => (by cases hp)) id, .inr⟩
theorem sep_head {x : Int × Int} {xs : Src} (h : Sep (x :: xs)) {n : Int} (hn : InS n (x :: xs)) : x.1 ≤ n := by
  rcases inS_cons.mp hn with e | ⟨p, hp, e⟩
  · exact e.1
  · have := (List.pairwise_cons.mp h.pw).1 p hp
    have := h.le x List.mem_cons_self
    omega
theorem sep_tail {x : Int × Int} {xs : Src} (h : Sep (x :: xs)) {n : Int} : InS n xs ↔ InS n (x :: xs) ∧ x.2 < n := by
  constructor
  · rintro ⟨p, hp, e⟩
    have := (List.pairwise_cons.mp h.pw).1 p hp
    exact ⟨⟨p, List.mem_cons_of_mem _ hp, e⟩, by omega⟩
  · rintro ⟨e, l⟩
    rcases inS_cons.mp e with e | e
    · omega
    · exact e
theorem sep_over {x : Int × Int} {xs : Src} (h : Sep (x :: xs)) : ¬ InS (x.2 + 1) (x :: xs) := fun hn => by
  rcases inS_cons.mp hn with e | ⟨p, hp, e⟩
  · omega
  · have := (List.pairwise_cons.mp h.pw).1 p hp
    omega
theorem sep_one : ∀ {xs ys : Src}, Sep xs → Sep ys → (∀ n, InS n xs ↔ InS n ys) → xs = ys
  | [], [], _, _, _ => rfl
  | [], y :: ys, _, h, e => by
    obtain ⟨p, hp, _⟩ := (e y.1).mpr ⟨y, List.mem_cons_self, Int.le_refl _, h.le y List.mem_cons_self⟩
    cases hp
  | x :: xs, [], h, _, e => by
    obtain ⟨p, hp, _⟩ := (e x.1).mp ⟨x, List.mem_cons_self, Int.le_refl _, h.le x List.mem_cons_self⟩
    cases hp
  | x :: xs, y :: ys, hx, hy, e => by
    have lx := hx.le x List.mem_cons_self
    have ly := hy.le y List.mem_cons_self
    have a1 := sep_head hy ((e x.1).mp ⟨x, List.mem_cons_self, Int.le_refl _, lx⟩)
    have a2 := sep_head hx ((e y.1).mpr ⟨y, List.mem_cons_self, Int.le_refl _, ly⟩)
    have b1 : ¬ x.2 < y.2 := fun z => sep_over hx ((e _).mpr ⟨y, List.mem_cons_self, by omega, by omega⟩)
    have b2 : ¬ y.2 < x.2 := fun z => sep_over hy ((e _).mp ⟨x, List.mem_cons_self, by omega, by omega⟩)
    have exy : x = y := Prod.ext (by omega) (by omega)
    subst exy
    rw [sep_one hx.tail hy.tail fun n => by rw [sep_tail hx, sep_tail hy, e n]]
theorem pw_or {α : Type} {R : α → α → Prop} {a b : α} : ∀ {l : List α}, l.Pairwise R → a ∈ l → b ∈ l → a = b ∨ R a b ∨ R b a
  | x :: l, h, ha, hb => by
    obtain ⟨h1, h2⟩ := List.pairwise_cons.mp h
    rcases List.mem_cons.mp ha with e | e <;> rcases List.mem_cons.mp hb with f | f
    · exact .inl (e.trans f.symm)
    · subst e; exact .inr (.inl (h1 b f))
    · subst f; exact .inr (.inr (h1 a e))
    · exact pw_or h2 e f
theorem nums_pw (a : Int) (k : Nat) : (nums a k).Pairwise (· < ·) := by
  unfold nums
  refine List.pairwise_map.mpr ((List.pairwise_lt_range (n := k)).imp fun h => ?_)
  omega
def cnt (L : Src) (n : Int) : Int := ((L.filter (hasB n)).length : Int)
theorem hav_cnt (L : Src) (n : Int) : ((hav L n).length : Int) = cnt L n := by unfold cnt; rw [hav_len]
theorem rng_of {L : Src} {n : Int} (h : hav L n ≠ []) : n ∈ rng L := by
  refine nums_mem.mpr ?_
  have h1 : ¬ (n < lo L ∨ hi L < n) := fun z => h (hav_out z)
  omega
theorem fil_pw {L : Src} (P : Int → Bool) : ((rng L).filter P).Pairwise (· < ·) := (nums_pw _ _).filter _
theorem in_fil {L : Src} {P : List Int → Bool} (hP : P [] = false) {n : Int} : InS n (spans ((rng L).filter fun n => P (hav L n))) ↔ P (hav L n) = true := by
  rw [spans_in (fil_pw _), List.mem_filter]
  refine ⟨fun h => h.2, fun h => ⟨rng_of fun e => ?_, h⟩⟩
  rw [e, hP] at h; cases h
theorem agr_sep (L : Src) (m : Int) : Sep (agr L m) := spans_sep (fil_pw _)
theorem agr_in {L : Src} {m n : Int} (hm : 1 ≤ m) : InS n (agr L m) ↔ m ≤ cnt L n := by
  have := in_fil (L := L) (P := fun l => decide (m ≤ (l.length : Int))) (n := n) (decide_eq_false (by show ¬ m ≤ ((0 : Nat) : Int); omega))
  refine this.trans ?_
  rw [decide_eq_true_iff, hav_cnt]
theorem cnt_le {L : Src} {m n : Int} (h : ∀ p ∈ L, hasB m p = true → hasB n p = true) : cnt L m ≤ cnt L n := by
  unfold cnt
  rw [← List.countP_eq_length_filter, ← List.countP_eq_length_filter]
  exact Int.ofNat_le.mpr (List.countP_mono_left h)
theorem agr_ends {L : Src} {m : Int} (hm : 1 ≤ m) {p : Int × Int} (hp : p ∈ agr L m) : p.1 ∈ lows L ∧ p.2 ∈ highs L := by
  have S := agr_sep L m
  have le := S.le p hp
  have i1 : m ≤ cnt L p.1 := (agr_in hm).mp ⟨p, hp, Int.le_refl _, le⟩
  have i2 : m ≤ cnt L p.2 := (agr_in hm).mp ⟨p, hp, le, Int.le_refl _⟩
  have o1 : ¬ m ≤ cnt L (p.1 - 1) := fun z => by
    obtain ⟨q, hq, e⟩ := (agr_in hm).mpr z
    have := S.le q hq
    rcases pw_or S.pw hp hq with h | h | h
    · subst h; omega
    · omega
    · omega
  have o2 : ¬ m ≤ cnt L (p.2 + 1) := fun z => by
    obtain ⟨q, hq, e⟩ := (agr_in hm).mpr z
    have := S.le q hq
    rcases pw_or S.pw hp hq with h | h | h
    · subst h; omega
    · omega
    · omega
  constructor
  · apply Classical.byContradiction
    intro no
    refine o1 (Int.le_trans i1 (cnt_le fun s hs h => ?_))
    have ne : s.1 ≠ p.1 := fun e => no (e ▸ List.mem_map.mpr ⟨s, hs, rfl⟩)
    unfold hasB at h ⊢
    rw [Bool.and_eq_true_iff, decide_eq_true_iff, decide_eq_true_iff] at h ⊢
    omega
  · apply Classical.byContradiction
    intro no
    refine o2 (Int.le_trans i2 (cnt_le fun s hs h => ?_))
    have ne : s.2 ≠ p.2 := fun e => no (e ▸ List.mem_map.mpr ⟨s, hs, rfl⟩)
    unfold hasB at h ⊢
    rw [Bool.and_eq_true_iff, decide_eq_true_iff, decide_eq_true_iff] at h ⊢
    omega
theorem cnt_most {L : Src} (g : Good L) (n : Int) : cnt L n ≤ most L := by
  rw [← hav_cnt]
  by_cases h : hav L n = []
  · rw [h]; have := most_pos g; show ((0 : Nat) : Int) ≤ _; omega
  · exact most_ge (rng_of h)
theorem row_edge {L : Src} {r : Int × Int × List Int} (hr : r ∈ rowsP L) : r.1 ∈ edges L := by
  obtain ⟨x, hx, rfl⟩ := List.mem_map.mp hr
  exact (List.of_mem_zip hx).1
theorem maxL_one {l : List Int} {m : Int} (h : m ∈ l) (hm : ∀ x ∈ l, x ≤ m) : maxL l = m :=
  Int.le_antisymm (hm _ (maxL_mem fun e => by rw [e] at h; cases h)) (maxL_ge h)
theorem edges_mem {L : Src} {e : Int} (h : e ∈ edges L) : e ∈ lows L ∨ e - 1 ∈ highs L := by
  rcases List.mem_append.mp (setI_mem.mp h) with z | z
  · exact .inl z
  · obtain ⟨y, hy, rfl⟩ := List.mem_map.mp z
    right
    rw [show y + 1 - 1 = y by omega]
    exact hy
end Sa

namespace Sa
open PySem L2

/-! ## Each def at its values: trimmed ends, hulls -/
theorem idx_l {l : List Int} {i : Int} (h0 : 0 ≤ i) (h1 : i < l.length) : nIdx [.lst (l.map .int), .int i] = some (.val (.int (l.getD i.toNat 0))) := by
  have hk : i.toNat < l.length := by omega
  have h : ixN (l.map D.int).length i = some i.toNat := by
    unfold ixN
    rw [if_pos h0, if_pos (by simpa using h1)]
  simp only [nIdx, atI, h, Option.bind_some, List.getElem?_map, List.getElem?_eq_getElem hk, Option.map_some, List.getD_eq_getElem?_getD, Option.getD_some]
theorem sort_ok (l : List Int) : nSorted [.lst (l.map .int)] = some (.new (.lst ((sortI l).map .int))) := by
  simp only [nSorted, D.ints_map]
  rfl
theorem e_trimmed (L : Src) (g : Okay L) (w : Int) (h0 : 0 ≤ w) (h1 : w < L.length) : fn_trimmed [vl (srcs L), vl (.int w)] = .ok (.val (.tup [.int (tlo L w.toNat), .int (thi L w.toNat)])) [vl (srcs L), vl (.int w)] := by
  have hf := g.few
  let ρ0 : Rho := [vl (srcs L), vl (.int w), .non, .non, .non, .non]
  let ρ1 : Rho := [vl (srcs L), vl (.int w), .own (.lst ((sortI (lows L)).map .int)) false, .own (.lst ((sortI (highs L)).map .int)) false, .non, .non]
  have c1 : sComp (sSeq (sVar 0)) (gT [gN 4, gN 5]) (sC (.bl true)) (sVar 4) [4, 5] ρ0 = .ok (.new (.lst ((lows L).map .int))) ρ0 := by
    have := comp_all (it := sSeq (sVar 0)) (t := gT [gN 4, gN 5]) (e := sVar 4) (vs := [4, 5]) (ρ := ρ0) L srcD (fun p => .int p.1) (seq_srcs rfl)
      (fun a ha => ⟨[vl (srcs L), vl (.int w), .non, .non, vl (.int a.1), vl (.int a.2)], _, _, _, rfl, rfl, rfl, rfl, rfl⟩) (by omega)
    rw [this]; unfold lows; rw [List.map_map]; rfl
  have c2 : sComp (sSeq (sVar 0)) (gT [gN 4, gN 5]) (sC (.bl true)) (sVar 5) [4, 5] ρ0 = .ok (.new (.lst ((highs L).map .int))) ρ0 := by
    have := comp_all (it := sSeq (sVar 0)) (t := gT [gN 4, gN 5]) (e := sVar 5) (vs := [4, 5]) (ρ := ρ0) L srcD (fun p => .int p.2) (seq_srcs rfl)
      (fun a ha => ⟨[vl (srcs L), vl (.int w), .non, .non, vl (.int a.1), vl (.int a.2)], _, _, _, rfl, rfl, rfl, rfl, rfl⟩) (by omega)
    rw [this]; unfold highs; rw [List.map_map]; rfl
  have k1 : sNat nSorted [sComp (sSeq (sVar 0)) (gT [gN 4, gN 5]) (sC (.bl true)) (sVar 4) [4, 5]] ρ0 = .ok (.new (.lst ((sortI (lows L)).map .int))) ρ0 := nat_ok (ev_one c1) rfl (sort_ok _) rfl
  have k2 : sNat nSorted [sComp (sSeq (sVar 0)) (gT [gN 4, gN 5]) (sC (.bl true)) (sVar 5) [4, 5]] ρ0 = .ok (.new (.lst ((sortI (highs L)).map .int))) ρ0 := nat_ok (ev_one c2) rfl (sort_ok _) rfl
  have s1 : sPar 2 3 (sNat nSorted [sComp (sSeq (sVar 0)) (gT [gN 4, gN 5]) (sC (.bl true)) (sVar 4) [4, 5]]) (sNat nSorted [sComp (sSeq (sVar 0)) (gT [gN 4, gN 5]) (sC (.bl true)) (sVar 5) [4, 5]]) ρ0 = .nx ρ1 := par_ok (ev_two k1 k2) rfl rfl rfl rfl
  have hl : sNat nLen [sVar 2] ρ1 = .ok (.val (.int (L.length : Int))) ρ1 := nat_ok (ds := [.lst ((sortI (lows L)).map .int)]) (ev_one (r := .own 2) rfl) rfl (o := .val (.int (L.length : Int))) (by simp only [nLen, List.length_map, sortI_len, lows_len]) rfl
  have hl1 : sNat nSub [sNat nLen [sVar 2], sC (.int 1)] ρ1 = .ok (.val (.int ((L.length : Int) - 1))) ρ1 := nat_ok (ev_two hl rfl) rfl rfl rfl
  have hl2 : sNat nSub [sNat nSub [sNat nLen [sVar 2], sC (.int 1)], sVar 1] ρ1 = .ok (.val (.int ((L.length : Int) - 1 - w))) ρ1 := nat_ok (ev_two hl1 rfl) rfl rfl rfl
  have i1 : sNat nIdx [sVar 2, sNat nSub [sNat nSub [sNat nLen [sVar 2], sC (.int 1)], sVar 1]] ρ1 = .ok (.val (.int (tlo L w.toNat))) ρ1 := by
    refine nat_ok (ds := [.lst ((sortI (lows L)).map .int), .int ((L.length : Int) - 1 - w)]) (ev_two (r := .own 2) rfl hl2) rfl (o := .val (.int (tlo L w.toNat))) ?_ rfl
    rw [idx_l (by omega) (by rw [sortI_len, lows_len]; omega)]
    unfold tlo
    rw [show ((L.length : Int) - 1 - w).toNat = L.length - 1 - w.toNat by omega]
  have i2 : sNat nIdx [sVar 3, sVar 1] ρ1 = .ok (.val (.int (thi L w.toNat))) ρ1 :=
    nat_ok (ds := [.lst ((sortI (highs L)).map .int), .int w]) (ev_two (r := .own 3) rfl rfl) rfl (idx_l h0 (by rw [sortI_len, highs_len]; omega)) rfl
  have hb : body_trimmed ρ0 = .ret (.val (.tup [.int (tlo L w.toNat), .int (thi L w.toNat)])) ρ1 := by
    refine (cons_nx (expr_ok (call_v (ρ2 := ρ0) (r := .val .non) (e_wrong L g w h0 h1) rfl rfl rfl rfl rfl))).trans ((cons_nx s1).trans ?_)
    exact cons_ret (ret_ok (tup_ok (ev_two i1 i2) rfl))
  exact run_r hb rfl rfl rfl rfl rfl
/-- whole numbers that all but w have -/
def canN (L : Src) (w : Int) : List Int := (rng L).filter fun n => decide ((L.length : Int) - w ≤ ((hav L n).length : Int))
theorem agr_can (L : Src) (w : Int) : agr L ((L.length : Int) - w) = spans (canN L w) := rfl
theorem can_most {L : Src} (g : Good L) {w : Int} (h : canN L w ≠ []) : (L.length : Int) - most L ≤ w := by
  cases q : canN L w with
  | nil => exact absurd q h
  | cons a l =>
    have ha : a ∈ canN L w := by rw [q]; exact List.mem_cons_self
    obtain ⟨h1, h2⟩ := List.mem_filter.mp ha
    have := of_decide_eq_true h2
    have := most_ge h1
    omega
theorem word_ne : decide (("spans" : PySem.Str) = "more") = false := by decide +kernel
theorem e_spans_if (L : Src) (g : Okay L) (w : Int) (h0 : 0 ≤ w) (h1 : w < L.length) (hc : (L.length : Int) - most L ≤ w) : fn_spans_if [vl (srcs L), vl (.int w)] = .ok (.val (srcs (spans (canN L w)))) [vl (srcs L), vl (.int w)] := by
  let ρ0 : Rho := [vl (srcs L), vl (.int w), .non, .non]
  let ρ1 : Rho := [vl (srcs L), vl (.int w), vl (.str "spans"), vl (srcs (spans (canN L w)))]
  have hd : couldD L w = .tup [.str "spans", srcs (spans (canN L w))] := by
    unfold couldD
    rw [if_neg (by omega), agP_eq g.toGood (by omega), agr_can]
  have ec := e_could L g w
  rw [hd] at ec
  have hk : sCall fn_told_could [sVar 0, sVar 1] ρ0 = .ok (.val (.tup [.str "spans", srcs (spans (canN L w))])) ρ0 := call_v ec rfl rfl rfl rfl rfl
  have he : sNat nEqS [sVar 2, sC (.str "more")] ρ1 = .ok (.val (.bl false)) ρ1 := nat_ok (ds := [.str "spans", .str "more"]) (ev_two rfl rfl) rfl (o := .val (.bl false)) (by simp only [nEqS, word_ne]) rfl
  have hb : body_spans_if ρ0 = .ret (.val (srcs (spans (canN L w)))) ρ1 := by
    refine (cons_nx (expr_ok (call_v (ρ2 := ρ0) (r := .val .non) (e_wrong L g w h0 h1) rfl rfl rfl rfl rfl))).trans ?_
    refine (cons_nx (asgT_ok (ρ3 := ρ1) hk rfl (two_g (gN_ok rfl rfl) (gN_ok rfl rfl)))).trans ?_
    exact (cons_nx ((ifs_ff he).trans rfl)).trans (cons_ret (ret_ok rfl))
  exact run_r hb rfl rfl rfl rfl rfl
theorem idx_first {sp : Src} {p : Int × Int} (h : sp.head? = some p) : nIdx [srcs sp, .int 0] = some (.val (srcD p)) := by
  cases sp with
  | nil => cases h
  | cons a sp =>
    cases h
    have hi : ixN ((p :: sp).map srcD).length 0 = some 0 := by simp [ixN]
    simp only [srcs, nIdx, atI, hi, Option.bind_some]
    rfl
theorem idx_last {sp : Src} {p : Int × Int} (h : sp.getLast? = some p) : nIdx [srcs sp, .int (-1)] = some (.val (srcD p)) := by
  obtain ⟨l, rfl⟩ := List.getLast?_eq_some_iff.mp h
  simp only [srcs, nIdx, List.map_append, List.map_cons, List.map_nil, atI_last]
  rfl
theorem e_hull (L : Src) (g : Okay L) (w : Int) (h0 : 0 ≤ w) (h1 : w < L.length) (hc : canN L w ≠ []) : ∃ a b, a ∈ canN L w ∧ b ∈ canN L w ∧ fn_hull [vl (srcs L), vl (.int w)] = .ok (.val (.tup [.int a, .int b])) [vl (srcs L), vl (.int w)] := by
  cases q : canN L w with
  | nil => exact absurd q hc
  | cons a l =>
    obtain ⟨p, r, e1, e2, e3, e4⟩ := spans_ends (a := a) (l := l)
    refine ⟨a, (a :: l).getLast (by simp), List.mem_cons_self, List.getLast_mem _, ?_⟩
    have es := e_spans_if L g w h0 h1 (can_most g.toGood hc)
    rw [q] at es
    let ρ0 : Rho := [vl (srcs L), vl (.int w), .non]
    let ρ1 : Rho := [vl (srcs L), vl (.int w), vl (srcs (spans (a :: l)))]
    have hs : sCall fn_spans_if [sVar 0, sVar 1] ρ0 = .ok (.val (srcs (spans (a :: l)))) ρ0 := call_v es rfl rfl rfl rfl rfl
    have k1 : sNat nIdx [sVar 2, sC (.int 0)] ρ1 = .ok (.val (srcD p)) ρ1 := nat_ok (ds := [srcs (spans (a :: l)), .int 0]) (ev_two rfl rfl) rfl (idx_first e1) rfl
    have k2 : sNat nIdx [sVar 2, sNat nNeg [sC (.int 1)]] ρ1 = .ok (.val (srcD r)) ρ1 := nat_ok (ds := [srcs (spans (a :: l)), .int (-1)]) (ev_two rfl (q := .val (.int (-1))) rfl) rfl (idx_last e3) rfl
    have k3 : sNat nIdx [sNat nIdx [sVar 2, sC (.int 0)], sC (.int 0)] ρ1 = .ok (.val (.int a)) ρ1 := nat_ok (ds := [srcD p, .int 0]) (ev_two k1 rfl) rfl (o := .val (.int a)) (by rw [← e2]; rfl) rfl
    have k4 : sNat nIdx [sNat nIdx [sVar 2, sNat nNeg [sC (.int 1)]], sC (.int 1)] ρ1 = .ok (.val (.int ((a :: l).getLast (by simp)))) ρ1 := nat_ok (ds := [srcD r, .int 1]) (ev_two k2 rfl) rfl (o := .val (.int ((a :: l).getLast (by simp)))) (by rw [← e4]; rfl) rfl
    have hb : body_hull ρ0 = .ret (.val (.tup [.int a, .int ((a :: l).getLast (by simp))])) ρ1 :=
      (cons_nx (asg_ok (i := 2) (ρ3 := ρ1) hs rfl rfl)).trans (cons_ret (ret_ok (tup_ok (ev_two k3 k4) rfl)))
    exact run_r hb rfl rfl rfl rfl rfl
end Sa

namespace Sa
open PySem L2

/-! ## Each def at its values: sources in a list; pulled -/
abbrev lstD (L : Src) : D := .lst (L.map srcD)
theorem e_havingL (L : Src) (n : Int) (hl : L.length ≤ 100000) : fn_having [vl (lstD L), vl (.int n)] = .ok (.new (.lst ((hav L n).map .int))) [vl (lstD L), vl (.int n)] := by
  let ρ0 : Rho := [vl (lstD L), vl (.int n), .non, .non, .non]
  have hit : sEnum (sVar 0) ρ0 = .ok (L.zipIdx.map fun x => .tup [.int (x.2 : Int), srcD x.1]) ρ0 := by
    rw [← enumD_map]; rfl
  have hc : sComp (sEnum (sVar 0)) (gT [gN 2, gT [gN 3, gN 4]]) (sChain nLe nLe (sVar 3) (sVar 1) (sVar 4)) (sVar 2) [2, 3, 4] ρ0 = .ok (.new (.lst ((hav L n).map .int))) ρ0 := by
    have := comp_ev (it := sEnum (sVar 0)) (t := gT [gN 2, gT [gN 3, gN 4]]) (c := sChain nLe nLe (sVar 3) (sVar 1) (sVar 4)) (e := sVar 2) (vs := [2, 3, 4]) (ρ := ρ0) L.zipIdx (fun x => .tup [.int (x.2 : Int), srcD x.1])
      (fun x => hasB n x.1) (fun x => .int (x.2 : Int)) hit (fun a ha => ?_) (by simpa using hl)
    · rw [this]; unfold hav; rw [List.map_map]; rfl
    · refine ⟨[vl (lstD L), vl (.int n), vl (.int a.2), vl (.int a.1.1), vl (.int a.1.2)], rfl, ?_, rfl, fun _ => ⟨_, _, _, rfl, rfl, rfl⟩⟩
      unfold hasB
      by_cases h1 : a.1.1 ≤ n
      · simp [sChain, sVar, Rs.bind, Rs.opt, views, view, nLe, NO.r, h1]
      · simp [sChain, sVar, Rs.bind, Rs.opt, views, view, nLe, NO.r, h1]
  have hb : body_having ρ0 = .ret (.new (.lst ((hav L n).map .int))) ρ0 := cons_ret (ret_ok hc)
  exact run_r hb rfl rfl rfl rfl rfl
theorem e_piecesL (L : Src) (g : Okay L) : fn_pieces_of [.own (.lst (L.map srcD)) false] = .ok (.new (.lst ((rowsP L).map rowD))) [vl (lstD L)] := by
  have hf := g.few
  let V : Sl := .val (lstD L) true
  let ρ0 : Rho := [.own (.lst (L.map srcD)) true, .non, .non, .non, .non, .non]
  let ρv : Rho := [V, .non, .non, .non, .non, .non]
  have c1 : sComp (sSeq (sVar 0)) (gT [gN 4, gN 5]) (sC (.bl true)) (sVar 4) [4, 5] ρ0 = .ok (.new (.lst ((lows L).map .int))) ρv := by
    have := comp_all (it := sSeq (sVar 0)) (t := gT [gN 4, gN 5]) (e := sVar 4) (vs := [4, 5]) (ρ := ρ0) (ρ1 := ρv) L srcD (fun p => .int p.1) rfl
      (fun a ha => ⟨[V, .non, .non, .non, vl (.int a.1), vl (.int a.2)], _, _, _, rfl, rfl, rfl, rfl, rfl⟩) (by omega)
    rw [this]; unfold lows; rw [List.map_map]; rfl
  have c2 : sComp (sSeq (sVar 0)) (gT [gN 4, gN 5]) (sC (.bl true)) (sNat nAdd [sVar 5, sC (.int 1)]) [4, 5] ρv = .ok (.new (.lst (((highs L).map (· + 1)).map .int))) ρv := by
    have := comp_all (it := sSeq (sVar 0)) (t := gT [gN 4, gN 5]) (e := sNat nAdd [sVar 5, sC (.int 1)]) (vs := [4, 5]) (ρ := ρv) (ρ1 := ρv) L srcD (fun p => .int (p.2 + 1)) rfl
      (fun a ha => ⟨[V, .non, .non, .non, vl (.int a.1), vl (.int a.2)], _, _, _, rfl, rfl, rfl, rfl, rfl⟩) (by omega)
    rw [this]; unfold highs; rw [List.map_map, List.map_map]; rfl
  let ρ1 : Rho := [V, .own (.lst ((edges L).map .int)) false, .non, .non, .non, .non]
  let ρ2 : Rho := [V, .val (.lst ((edges L).map .int)) false, .non, .non, .non, .non]
  have e1 : sAsg 1 (sNat nSortSet [sNat nAdd [sComp (sSeq (sVar 0)) (gT [gN 4, gN 5]) (sC (.bl true)) (sVar 4) [4, 5], sComp (sSeq (sVar 0)) (gT [gN 4, gN 5]) (sC (.bl true)) (sNat nAdd [sVar 5, sC (.int 1)]) [4, 5]]]) ρ0 = .nx ρ1 := by
    have z : szOk (((lows L).map D.int).length + (((highs L).map (· + 1)).map D.int).length) = true := decide_eq_true (by simp [lows, highs]; omega)
    have z2 : decide ((lows L ++ (highs L).map (· + 1)).length ≤ 4000) = true := decide_eq_true (by simp [lows, highs]; omega)
    have z3 : D.ints? ((lows L).map D.int ++ ((highs L).map (· + 1)).map D.int) = some (lows L ++ (highs L).map (· + 1)) := by rw [← List.map_append]; exact D.ints_map _
    simp only [sAsg, sNat, evs, c1, c2, Rs.bind_ok, views, view, Option.bind_some, Rs.opt_some, nAdd, guard', z, if_true, NO.r, nSortSet, z3, z2, Rs.out, mv, oOpt_some]
    rfl
  have hz : sZip (sVar 1) (sSlc (sVar 1) (some (sC (.int 1))) none) ρ1 = .ok ((List.zip (edges L) (edges L).tail).map fun x => .tup [.int x.1, .int x.2]) ρ2 := by
    obtain ⟨e, E, q, _⟩ := edges_ex g.toGood
    have hc : cutD ((e :: E).map D.int) (some 1) none = E.map D.int := by
      unfold cutD
      have e1 : HT.sIx ((e :: E).map D.int).length 0 (some 1) = 1 := by
        have := HT.sIx_nat ((e :: E).map D.int).length 0 1
        rw [show ((1 : Nat) : Int) = 1 from rfl] at this
        rw [this]; simp
      rw [e1, HT.sIx_none]
      simp
      exact List.take_of_length_le (by simp)
    have h2 : sSlc (sVar 1) (some (sC (.int 1))) none ρ1 = .ok (.new (.lst ((edges L).tail.map .int))) ρ1 := by
      rw [q]
      show _ = Rs.ok (R.new (Ob.lst (E.map D.int))) ρ1
      rw [← hc, ← q]
      rfl
    have h3 : evs [sVar 1, sSlc (sVar 1) (some (sC (.int 1))) none] ρ1 = .ok [.own 1, .new (.lst ((edges L).tail.map .int))] ρ1 := ev_two rfl h2
    have h4 : frzs [.own 1, .new (.lst ((edges L).tail.map D.int))] ρ1 = some ([.lst ((edges L).map .int), .lst ((edges L).tail.map .int)], ρ2) := rfl
    simp only [sZip, h3, Rs.bind_ok, h4, Rs.opt_some, zipD_map]
  have c3 : sComp (sZip (sVar 1) (sSlc (sVar 1) (some (sC (.int 1))) none)) (gT [gN 2, gN 3]) (sC (.bl true)) (sTup [sVar 2, sNat nSub [sVar 3, sC (.int 1)], sCall fn_having [sVar 0, sVar 2]]) [2, 3] ρ1 = .ok (.new (.lst ((rowsP L).map rowD))) ρ2 := by
    have := comp_all (t := gT [gN 2, gN 3]) (e := sTup [sVar 2, sNat nSub [sVar 3, sC (.int 1)], sCall fn_having [sVar 0, sVar 2]]) (vs := [2, 3]) (List.zip (edges L) (edges L).tail) (fun x => .tup [.int x.1, .int x.2]) (fun x => rowD (x.1, x.2 - 1, hav L x.1)) hz (fun a ha => ?_) (by
        have := edges_len L
        rw [List.length_zip]; omega)
    · rw [this]; unfold rowsP; rw [List.map_map]; rfl
    · let ρ3 : Rho := [V, .val (.lst ((edges L).map .int)) false, vl (.int a.1), vl (.int a.2), .non, .non]
      have hc : sCall fn_having [sVar 0, sVar 2] ρ3 = .ok (.new (.lst ((hav L a.1).map .int))) ρ3 := call_v (e_havingL L a.1 (by omega)) rfl rfl rfl rfl rfl
      refine ⟨ρ3, .val (rowD (a.1, a.2 - 1, hav L a.1)), ρ3, ρ3, rfl, ?_, rfl, rfl, rfl⟩
      exact tup_ok (ev_cons rfl (ev_cons rfl (ev_one hc))) rfl
  have hb : body_pieces_of ρ0 = .ret (.new (.lst ((rowsP L).map rowD))) ρ2 := (cons_nx e1).trans (cons_ret (ret_ok c3))
  exact run_r hb rfl rfl rfl rfl rfl
theorem e_toldL (L : Src) (g : Okay L) (m : Int) : fn_told_agreed [.own (.lst (L.map srcD)) false, vl (.int m)] = .ok (.val (srcs (agP L m))) [vl (lstD L), vl (.int m)] := by
  have hf := g.few
  have hr := rowsP_len L
  let V : Sl := .val (lstD L) true
  let ρ0 : Rho := [.own (.lst (L.map srcD)) true, vl (.int m), .non, .non, .non]
  let ρv : Rho := [V, vl (.int m), .non, .non, .non]
  have hit : sSeq (sCall fn_pieces_of [sVar 0]) ρ0 = .ok ((rowsP L).map rowD) ρv := seq_new (call_v (e_piecesL L g) (ev_one (r := .own 0) rfl) rfl rfl rfl rfl)
  have hc : sComp (sSeq (sCall fn_pieces_of [sVar 0])) (gT [gN 2, gN 3, gN 4]) (sNat nGe [sNat nLen [sVar 4], sVar 1]) (sTup [sVar 2, sVar 3]) [2, 3, 4] ρ0 = .ok (.new (.lst ((((rowsP L).filter fun r => decide (m ≤ (r.2.2.length : Int))).map fun r => (r.1, r.2.1)).map srcD))) ρv := by
    rw [List.map_map]
    refine comp_ev (rowsP L) rowD (fun r => decide (m ≤ (r.2.2.length : Int))) (srcD ∘ fun r => (r.1, r.2.1)) hit (fun r _ => ?_) (by omega)
    let ρ1 : Rho := [V, vl (.int m), vl (.int r.1), vl (.int r.2.1), vl (.lst (r.2.2.map .int))]
    refine ⟨ρ1, three_g rfl rfl rfl, ?_, rfl, fun _ => ⟨_, _, _, tup_ok (ev_two rfl rfl) rfl, rfl, rfl⟩⟩
    have e : sNat nLen [sVar 4] ρ1 = .ok (.val (.int (r.2.2.length : Int))) ρ1 := nat_ok (ev_one rfl) rfl (o := .val (.int (r.2.2.length : Int))) (by simp only [nLen, List.length_map]) rfl
    exact nat_ok (ev_two e rfl) rfl rfl rfl
  have hj := e_joined (((rowsP L).filter fun r => decide (m ≤ (r.2.2.length : Int))).map fun r => (r.1, r.2.1)) (by
    have := List.length_filter_le (fun r : Int × Int × List Int => decide (m ≤ (r.2.2.length : Int))) (rowsP L)
    rw [List.length_map]; omega)
  have hb : body_told_agreed ρ0 = .ret (.val (srcs (agP L m))) ρv := cons_ret (ret_ok (call_v hj (ev_one hc) rfl rfl rfl rfl))
  exact run_r hb rfl rfl rfl rfl rfl
/-- all but the one at at -/
def oth (L : Src) (at_ : Int) : Src := (L.zipIdx.filter fun x => !decide ((x.2 : Int) = at_)).map (·.1)
theorem oth_mem {L : Src} {a : Int} {p : Int × Int} (h : p ∈ oth L a) : p ∈ L := by
  obtain ⟨x, hx, rfl⟩ := List.mem_map.mp h
  have := (List.mem_zipIdx' (List.mem_filter.mp hx).1).2
  rw [this]; exact List.getElem_mem _
theorem oth_len (L : Src) (a : Int) : (oth L a).length ≤ L.length := by
  unfold oth
  rw [List.length_map]
  have := List.length_filter_le (fun x : (Int × Int) × Nat => !decide ((x.2 : Int) = a)) L.zipIdx
  simpa using this
theorem oth_ne {L : Src} {a : Int} (h : 2 ≤ L.length) : oth L a ≠ [] := by
  have h0 : (L[0], 0) ∈ L.zipIdx := by
    rw [List.mem_iff_getElem?]
    exact ⟨0, by rw [List.getElem?_zipIdx, List.getElem?_eq_getElem (by omega)]; rfl⟩
  have h1 : (L[1], 1) ∈ L.zipIdx := by
    rw [List.mem_iff_getElem?]
    exact ⟨1, by rw [List.getElem?_zipIdx, List.getElem?_eq_getElem (by omega)]; rfl⟩
  intro e
  by_cases z : (0 : Int) = a
  · have : L[1] ∈ oth L a := List.mem_map.mpr ⟨(L[1], 1), List.mem_filter.mpr ⟨h1, by subst z; rfl⟩, rfl⟩
    rw [e] at this; cases this
  · have : L[0] ∈ oth L a := List.mem_map.mpr ⟨(L[0], 0), List.mem_filter.mpr ⟨h0, by simpa using z⟩, rfl⟩
    rw [e] at this; cases this
theorem oth_ok {L : Src} (g : Okay L) {a : Int} (h : 2 ≤ L.length) : Okay (oth L a) :=
  ⟨⟨oth_ne h, fun p hp => g.le p (oth_mem hp)⟩, Nat.le_trans (oth_len L a) g.few, fun p hp => g.bd p (oth_mem hp)⟩
def pulD : List Int → D
  | [] => .non
  | a :: l => .tup [.int a, .int ((a :: l).getLast (by simp))]
def pulR (L : Src) (w a : Int) : D := if (L.length : Int) - w - 1 < 1 then .tup [.int (-99999), .int 99999] else pulD ((rng (oth L a)).filter fun n => decide ((L.length : Int) - w - 1 ≤ ((hav (oth L a) n).length : Int)))
theorem othC (L : Src) {i j k l : Nat} {ρ : Rho} {a : Int} (hl : L.length ≤ 100000) (h0 : ρ[0]? = some (vl (srcs L))) (hs : ∀ x : (Int × Int) × Nat, ∃ ρ2, gT [gN i, gN j] (.tup [.int (x.2 : Int), srcD x.1]) (wipeR ρ [i, j]) = some ρ2 ∧ sVar i ρ2 = .ok (.val (.int (x.2 : Int))) ρ2 ∧ sVar k ρ2 = .ok (.val (.int a)) ρ2 ∧ sVar j ρ2 = .ok (.val (srcD x.1)) ρ2 ∧ wipeR ρ2 [i, j] = wipeR ρ [i, j]) :
    sComp (sEnum (sVar 0)) (gT [gN i, gN j]) (sNat nNeS [sVar i, sVar k]) (sVar j) [i, j] ρ = .ok (.new (.lst ((oth L a).map srcD))) ρ := by
  have := comp_ev (it := sEnum (sVar 0)) (t := gT [gN i, gN j]) (c := sNat nNeS [sVar i, sVar k]) (e := sVar j) (vs := [i, j]) (ρ := ρ) L.zipIdx (fun x => .tup [.int (x.2 : Int), srcD x.1])
    (fun x => !decide ((x.2 : Int) = a)) (fun x => srcD x.1) (enum_srcs h0) (fun x _ => by
      obtain ⟨ρ2, e1, e2, e3, e4, e5⟩ := hs x
      exact ⟨ρ2, e1, nat_ok (ev_two e2 e3) rfl (neS_i _ _) rfl, e5, fun _ => ⟨_, ρ2, ρ2, e4, rfl, e5⟩⟩) (by simpa using hl)
  rw [this]
  unfold oth
  rw [List.map_map]; rfl
theorem eqS_emp (sp : Src) : nEqS [srcs sp, .tup []] = some (.val (.bl sp.isEmpty)) := by
  show nEq [srcs sp, .tup []] = _
  have z : (D.tup []).shp = true := rfl
  have e : (srcs sp).eqv (.tup []) = sp.isEmpty := by cases sp <;> rfl
  simp only [nEq, shp_tup, z, e]
  rfl
theorem e_pulled (L : Src) (g : Okay L) (w a : Int) (h0 : 0 ≤ w) (h1 : w < L.length) (ha0 : 0 ≤ a) (ha1 : a < L.length) : fn_pulled [vl (srcs L), vl (.int w), vl (.int a)] = .ok (.val (pulR L w a)) [vl (srcs L), vl (.int w), vl (.int a)] := by
  have hf := g.few
  let O := oth L a
  let m : Int := (L.length : Int) - w - 1
  let ρ0 : Rho := [vl (srcs L), vl (.int w), vl (.int a), .non, .non, .non, .non, .non]
  let ρ1 : Rho := [vl (srcs L), vl (.int w), vl (.int a), .own (.lst (O.map srcD)) false, .non, .non, .non, .non]
  let ρ2 : Rho := [vl (srcs L), vl (.int w), vl (.int a), .own (.lst (O.map srcD)) false, vl (.int m), .non, .non, .non]
  have q0 : sExpr (sCall fn_check_wrong [sVar 0, sVar 1]) ρ0 = .nx ρ0 := expr_ok (call_v (r := .val .non) (e_wrong L g w h0 h1) rfl rfl rfl rfl rfl)
  have hl1 : sNat nSub [sNat nLen [sVar 0], sC (.int 1)] ρ0 = .ok (.val (.int ((L.length : Int) - 1))) ρ0 := nat_ok (ev_two (len_srcs L rfl) rfl) rfl rfl rfl
  have hbt := btw (n := a) (a := 0) (b := (L.length : Int) - 1) (fs := [sVar 2, sC (.int 0), sNat nSub [sNat nLen [sVar 0], sC (.int 1)]]) (ρ := ρ0) (ev_cons rfl (ev_cons rfl (ev_one hl1))) ha0 (by omega)
  have hc := othC L (i := 6) (j := 7) (k := 2) (l := 0) (ρ := ρ0) (a := a) (by omega) rfl fun x => ⟨[vl (srcs L), vl (.int w), vl (.int a), .non, .non, .non, vl (.int (x.2 : Int)), vl (srcD x.1)], rfl, rfl, rfl, rfl, rfl⟩
  have hm1 : sNat nSub [sNat nLen [sVar 0], sVar 1] ρ1 = .ok (.val (.int ((L.length : Int) - w))) ρ1 := nat_ok (ev_two (len_srcs L rfl) rfl) rfl rfl rfl
  have hm : sNat nSub [sNat nSub [sNat nLen [sVar 0], sVar 1], sC (.int 1)] ρ1 = .ok (.val (.int m)) ρ1 := nat_ok (ev_two hm1 rfl) rfl rfl rfl
  have hlt : sNat nLt [sVar 4, sC (.int 1)] ρ2 = .ok (.val (.bl (decide (m < 1)))) ρ2 := nat_ok (ev_two rfl rfl) rfl rfl rfl
  by_cases hq : m < 1
  · rw [decide_eq_true hq] at hlt
    have hr : pulR L w a = .tup [.int (-99999), .int 99999] := if_pos hq
    rw [hr]
    have ht : sTup [sNat nSub [sC (.int 0), sC (.int 99999)], sC (.int 99999)] ρ2 = .ok (.val (.tup [.int (-99999), .int 99999])) ρ2 := tup_ok (ev_two (r := .val (.int (-99999))) rfl rfl) rfl
    have hb : body_pulled ρ0 = .ret (.val (.tup [.int (-99999), .int 99999])) ρ2 := by
      refine (cons_nx q0).trans ((cons_nx ((ifs_ff (not_ok hbt)).trans rfl)).trans ?_)
      refine (cons_nx (asg_ok (i := 3) (ρ3 := ρ1) hc rfl rfl)).trans ?_
      refine (cons_nx (asg_ok (i := 4) (ρ3 := ρ2) hm rfl rfl)).trans ?_
      exact cons_ret ((ifs_tt hlt).trans (cons_ret (ret_ok ht)))
    exact run_r hb rfl rfl rfl rfl rfl
  · rw [decide_eq_false hq] at hlt
    have gO : Okay O := oth_ok g (by omega)
    let C := (rng O).filter fun n => decide (m ≤ ((hav O n).length : Int))
    have hr : pulR L w a = pulD C := if_neg hq
    rw [hr]
    have et := e_toldL O gO m
    rw [agP_eq gO.toGood (by omega)] at et
    have et : fn_told_agreed [.own (.lst (O.map srcD)) false, vl (.int m)] = .ok (.val (srcs (spans C))) [vl (lstD O), vl (.int m)] := et
    let ρ3 : Rho := [vl (srcs L), vl (.int w), vl (.int a), vl (lstD O), vl (.int m), .non, .non, .non]
    let ρ4 : Rho := [vl (srcs L), vl (.int w), vl (.int a), vl (lstD O), vl (.int m), vl (srcs (spans C)), .non, .non]
    have hs : sCall fn_told_agreed [sVar 3, sVar 4] ρ2 = .ok (.val (srcs (spans C))) ρ3 := call_v et (ev_two (r := .own 3) rfl rfl) rfl rfl rfl rfl
    have he : sNat nEqS [sVar 5, sTup []] ρ4 = .ok (.val (.bl (spans C).isEmpty)) ρ4 := nat_ok (ds := [srcs (spans C), .tup []]) (ev_two (q := .val (.tup [])) rfl rfl) rfl (eqS_emp _) rfl
    have hlast : sIf (sNat nEqS [sVar 5, sTup []]) (sC .non) (sTup [sNat nIdx [sNat nIdx [sVar 5, sC (.int 0)], sC (.int 0)], sNat nIdx [sNat nIdx [sVar 5, sNat nNeg [sC (.int 1)]], sC (.int 1)]]) ρ4 = .ok (.val (pulD C)) ρ4 := by
      cases qC : C with
      | nil =>
        rw [qC] at he
        exact if_tt he rfl
      | cons b l =>
        obtain ⟨p, r, e1, e2, e3, e4⟩ := spans_ends (a := b) (l := l)
        have hne : (spans C).isEmpty = false := by
          rw [qC]
          cases hh : spans (b :: l) with
          | nil => rw [hh] at e1; cases e1
          | cons _ _ => rfl
        rw [hne] at he
        rw [← qC] at e1 e3
        have k1 : sNat nIdx [sVar 5, sC (.int 0)] ρ4 = .ok (.val (srcD p)) ρ4 := nat_ok (ds := [srcs (spans C), .int 0]) (ev_two rfl rfl) rfl (idx_first e1) rfl
        have k2 : sNat nIdx [sVar 5, sNat nNeg [sC (.int 1)]] ρ4 = .ok (.val (srcD r)) ρ4 := nat_ok (ds := [srcs (spans C), .int (-1)]) (ev_two rfl (q := .val (.int (-1))) rfl) rfl (idx_last e3) rfl
        have k3 : sNat nIdx [sNat nIdx [sVar 5, sC (.int 0)], sC (.int 0)] ρ4 = .ok (.val (.int b)) ρ4 := nat_ok (ds := [srcD p, .int 0]) (ev_two k1 rfl) rfl (o := .val (.int b)) (by rw [← e2]; rfl) rfl
        have k4 : sNat nIdx [sNat nIdx [sVar 5, sNat nNeg [sC (.int 1)]], sC (.int 1)] ρ4 = .ok (.val (.int ((b :: l).getLast (by simp)))) ρ4 := nat_ok (ds := [srcD r, .int 1]) (ev_two k2 rfl) rfl (o := .val (.int ((b :: l).getLast (by simp)))) (by rw [← e4]; rfl) rfl
        exact if_ff he (tup_ok (ev_two k3 k4) rfl)
    have hb : body_pulled ρ0 = .ret (.val (pulD C)) ρ4 := by
      refine (cons_nx q0).trans ((cons_nx ((ifs_ff (not_ok hbt)).trans rfl)).trans ?_)
      refine (cons_nx (asg_ok (i := 3) (ρ3 := ρ1) hc rfl rfl)).trans ?_
      refine (cons_nx (asg_ok (i := 4) (ρ3 := ρ2) hm rfl rfl)).trans ?_
      refine (cons_nx ((ifs_ff hlt).trans rfl)).trans ?_
      refine (cons_nx (asg_ok (i := 5) (ρ3 := ρ4) hs rfl rfl)).trans ?_
      exact cons_ret (ret_ok hlast)
    exact run_r hb rfl rfl rfl rfl rfl
end Sa

namespace Sa
open PySem L2

/-! ## Data are equal to themselves; all, any of a comprehension -/
mutual
/-- no text but short ones -/
def D.tx : D → Bool
  | .str s => PyData.canLay0 (.str s)
  | .tup ds => D.txs ds
  | .lst ds => D.txs ds
  | _ => true
def D.txs : List D → Bool
  | [] => true
  | d :: ds => d.tx && D.txs ds
end
mutual
theorem lay_all : ∀ d : D, d.tx = true → d.py.canLay0 = true
  | .non, _ => rfl
  | .bl _, _ => rfl
  | .int _, _ => rfl
  | .str _, h => h
  | .tup ds, h => by simp only [D.py, PyData.canLay0]; exact lay_alls ds h
  | .lst ds, h => by simp only [D.py, PyData.canLay0]; exact lay_alls ds h
theorem lay_alls : ∀ ds : List D, D.txs ds = true → PyData.canLayAll0 (D.pys ds) = true
  | [], _ => rfl
  | d :: ds, h => by
    obtain ⟨h1, h2⟩ := Bool.and_eq_true_iff.mp h
    simp only [D.pys, PyData.canLayAll0, lay_all d h1, lay_alls ds h2, Bool.and_self]
end
theorem txs_ints : ∀ l : List Int, D.txs (l.map .int) = true
  | [] => rfl
  | _ :: l => txs_ints l
theorem txs_tups : ∀ ks : List (List Int), D.txs (ks.map dT) = true
  | [] => rfl
  | k :: ks => Bool.and_eq_true_iff.mpr ⟨txs_ints k, txs_tups ks⟩
theorem txs_srcs : ∀ l : Src, D.txs (l.map srcD) = true
  | [] => rfl
  | _ :: l => Bool.and_eq_true_iff.mpr ⟨rfl, txs_srcs l⟩
mutual
theorem eqv_self : ∀ d : D, PyData.eqv d.py d.py = true
  | .non => rfl
  | .bl b => by cases b <;> rfl
  | .int i => by show (i == i) = true; simp
  | .str s => by show (s == s) = true; simp
  | .tup ds => by simp only [D.py, PyData.eqv]; exact eqv_selfs ds
  | .lst ds => by simp only [D.py, PyData.eqv]; exact eqv_selfs ds
theorem eqv_selfs : ∀ ds : List D, PyData.eqvAll (D.pys ds) (D.pys ds) = true
  | [] => rfl
  | d :: ds => by simp only [D.pys, PyData.eqvAll, eqv_self d, eqv_selfs ds, Bool.and_self]
end
theorem shp_of {d : D} (hx : d.tx = true) (h : d.py.depth ≤ 64) : d.shp = true := by
  simp only [D.shp, SeqAt.shaped, lay_all d hx, Bool.true_and]
  exact decide_eq_true h
theorem eqS_self {d : D} (hx : d.tx = true) (h : d.py.depth ≤ 64) : nEqS [d, d] = some (.val (.bl true)) := by
  have n : nEq [d, d] = some (.val (.bl true)) := by
    have e : d.eqv d = true := eqv_self d
    simp only [nEq, shp_of hx h, e]
    rfl
  cases d <;> first | exact n | (simp only [nEqS]; simp)
theorem neS_self {d : D} (hx : d.tx = true) (h : d.py.depth ≤ 64) : nNeS [d, d] = some (.val (.bl false)) := by
  have n : nNe [d, d] = some (.val (.bl false)) := by
    have e : d.eqv d = true := eqv_self d
    simp only [nNe, shp_of hx h, e]
    rfl
  cases d <;> first | exact n | (simp only [nNeS]; simp)
theorem bls_map {α : Type} (b : α → Bool) : ∀ L : List α, D.bls? (L.map fun a => D.bl (b a)) = some (L.map b)
  | [] => rfl
  | a :: L => by simp only [List.map_cons, D.bls?, bls_map b L, Option.map_some]
section
variable {α : Type} {it : SI} {t : STg} {e : SE} {vs : List Nat} {ρ ρ1 : Rho}
theorem comp_any (L : List α) (g : α → D) (b : α → Bool) (hit : it ρ = .ok (L.map g) ρ1)
    (h : ∀ a ∈ L, ∃ ρ2 ρ3, t (g a) (wipeR ρ1 vs) = some ρ2 ∧ e ρ2 = .ok (.val (.bl (b a))) ρ3 ∧ wipeR ρ2 vs = wipeR ρ1 vs ∧ wipeR ρ3 vs = wipeR ρ1 vs) (hl : L.length ≤ 100000) :
    sNat nAny [sComp it t (sC (.bl true)) e vs] ρ = .ok (.val (.bl (L.any b))) ρ1 := by
  have := comp_all (e := e) (t := t) (vs := vs) L g (fun a => .bl (b a)) hit (fun a ha => by
    obtain ⟨ρ2, ρ3, h1, h2, h3, h4⟩ := h a ha
    exact ⟨ρ2, _, ρ3, ρ3, h1, h2, rfl, h3, h4⟩) hl
  refine nat_ok (ev_one this) rfl (o := .val (.bl (L.any b))) ?_ rfl
  simp only [nAny, bls_map, Option.map_some]
  congr 3
  induction L with
  | nil => rfl
  | cons a L ih => simp
theorem comp_every (L : List α) (g : α → D) (b : α → Bool) (hit : it ρ = .ok (L.map g) ρ1)
    (h : ∀ a ∈ L, ∃ ρ2 ρ3, t (g a) (wipeR ρ1 vs) = some ρ2 ∧ e ρ2 = .ok (.val (.bl (b a))) ρ3 ∧ wipeR ρ2 vs = wipeR ρ1 vs ∧ wipeR ρ3 vs = wipeR ρ1 vs) (hl : L.length ≤ 100000) :
    sNat nAll [sComp it t (sC (.bl true)) e vs] ρ = .ok (.val (.bl (L.all b))) ρ1 := by
  have := comp_all (e := e) (t := t) (vs := vs) L g (fun a => .bl (b a)) hit (fun a ha => by
    obtain ⟨ρ2, ρ3, h1, h2, h3, h4⟩ := h a ha
    exact ⟨ρ2, _, ρ3, ρ3, h1, h2, rfl, h3, h4⟩) hl
  refine nat_ok (ev_one this) rfl (o := .val (.bl (L.all b))) ?_ rfl
  simp only [nAll, bls_map, Option.map_some]
  congr 3
  induction L with
  | nil => rfl
  | cons a L ih => simp
end
theorem two_gT {i : Nat} {t : STg} {ρ ρ1 ρ2 : Rho} {a b : D} (h1 : gN i a ρ = some ρ1) (h2 : t b ρ1 = some ρ2) : gT [gN i, t] (.tup [a, b]) ρ = some ρ2 := by
  simp only [gT, gsT, h1, h2, Option.bind_some]
theorem app_ok {i : Nat} {e : SE} {ρ ρ1 ρ2 : Rho} {r : R} {d : D} {ds : List D} {o : Ob} {pn pn' : Bool} (he : e ρ = .ok r ρ1) (h0 : ρ[i]? = some (.own o pn)) (hf : frz r ρ1 = some (d, ρ2)) (h2 : ρ2[i]? = some (.own (.lst ds) pn')) (hz : ds.length ≤ 100000) :
    sMut i mAppend [e] ρ = .ok (.val .non) (ρ2.set i (.own (.lst (ds ++ [d])) pn')) := by
  have z : szOk ds.length = true := decide_eq_true (by omega)
  exact mut_ok' (as := [d]) h0 (ev_one he) (by simp only [frzs, hf, Option.bind_some, Option.map_some]) h2 (by simp only [mAppend, z, if_true])
theorem and_b {f g : SE} {ρ ρ1 : Rho} {a b : Bool} (h : f ρ = .ok (.val (.bl a)) ρ1) (h2 : g ρ1 = .ok (.val (.bl b)) ρ1) : sAnd f g ρ = .ok (.val (.bl (a && b))) ρ1 := by
  cases a with
  | true => exact and_tt h h2
  | false => exact and_ff h
theorem or_b {f g : SE} {ρ ρ1 : Rho} {a b : Bool} (h : f ρ = .ok (.val (.bl a)) ρ1) (h2 : g ρ1 = .ok (.val (.bl b)) ρ1) : sOr f g ρ = .ok (.val (.bl (a || b))) ρ1 := by
  cases a with
  | false => exact or_ff h h2
  | true => simp only [sOr, h]; rfl

/-! ## _law_is_in, hull, surely_right, surely_wrong -/
theorem any_in {L : Src} {n : Int} : L.any (hasB n) = true ↔ InS n L := by
  rw [List.any_eq_true]
  constructor
  · rintro ⟨p, hp, h⟩
    obtain ⟨a, b⟩ := Bool.and_eq_true_iff.mp h
    exact ⟨p, hp, of_decide_eq_true a, of_decide_eq_true b⟩
  · rintro ⟨p, hp, a, b⟩
    exact ⟨p, hp, Bool.and_eq_true_iff.mpr ⟨decide_eq_true a, decide_eq_true b⟩⟩
/-- what all but w have: its first and its last -/
theorem ends_ok {L : Src} {w a : Int} {l : List Int} (q : canN L w = a :: l) {i : Nat} {ρ : Rho} (h : ρ[i]? = some (vl (srcs (spans (canN L w))))) :
    sNat nIdx [sNat nIdx [sVar i, sC (.int 0)], sC (.int 0)] ρ = .ok (.val (.int a)) ρ ∧ sNat nIdx [sNat nIdx [sVar i, sNat nNeg [sC (.int 1)]], sC (.int 1)] ρ = .ok (.val (.int ((a :: l).getLast (by simp)))) ρ := by
  obtain ⟨p, r, e1, e2, e3, e4⟩ := spans_ends (a := a) (l := l)
  rw [q] at h
  have hv : sVar i ρ = .ok (.val (srcs (spans (a :: l)))) ρ := by simp only [sVar, h]
  have k1 : sNat nIdx [sVar i, sC (.int 0)] ρ = .ok (.val (srcD p)) ρ := nat_ok (ds := [srcs (spans (a :: l)), .int 0]) (ev_two hv rfl) rfl (idx_first e1) rfl
  have k2 : sNat nIdx [sVar i, sNat nNeg [sC (.int 1)]] ρ = .ok (.val (srcD r)) ρ := nat_ok (ds := [srcs (spans (a :: l)), .int (-1)]) (ev_two hv (q := .val (.int (-1))) rfl) rfl (idx_last e3) rfl
  exact ⟨nat_ok (ds := [srcD p, .int 0]) (ev_two k1 rfl) rfl (o := .val (.int a)) (by rw [← e2]; rfl) rfl,
    nat_ok (ds := [srcD r, .int 1]) (ev_two k2 rfl) rfl (o := .val (.int ((a :: l).getLast (by simp)))) (by rw [← e4]; rfl) rfl⟩
theorem e_hull2 (L : Src) (g : Okay L) (w : Int) (h0 : 0 ≤ w) (h1 : w < L.length) {a : Int} {l : List Int} (q : canN L w = a :: l) : fn_hull [vl (srcs L), vl (.int w)] = .ok (.val (.tup [.int a, .int ((a :: l).getLast (by simp))])) [vl (srcs L), vl (.int w)] := by
  let ρ0 : Rho := [vl (srcs L), vl (.int w), .non]
  let ρ1 : Rho := [vl (srcs L), vl (.int w), vl (srcs (spans (canN L w)))]
  have es := e_spans_if L g w h0 h1 (can_most g.toGood (by rw [q]; simp))
  have hs : sCall fn_spans_if [sVar 0, sVar 1] ρ0 = .ok (.val (srcs (spans (canN L w)))) ρ0 := call_v es rfl rfl rfl rfl rfl
  obtain ⟨k3, k4⟩ := ends_ok (ρ := ρ1) (i := 2) q rfl
  have hb : body_hull ρ0 = .ret (.val (.tup [.int a, .int ((a :: l).getLast (by simp))])) ρ1 :=
    (cons_nx (asg_ok (i := 2) (ρ3 := ρ1) hs rfl rfl)).trans (cons_ret (ret_ok (tup_ok (ev_two k3 k4) rfl)))
  exact run_r hb rfl rfl rfl rfl rfl
/-- those that have all from a to b -/
def rightL' (L : Src) (a b : Int) : List Int := (L.zipIdx.filter fun x => decide (x.1.1 ≤ a) && decide (b ≤ x.1.2)).map fun x => (x.2 : Int)
theorem e_surely_right (L : Src) (g : Okay L) (w : Int) (h0 : 0 ≤ w) (h1 : w < L.length) {a : Int} {l : List Int} (q : canN L w = a :: l) :
    fn_surely_right [vl (srcs L), vl (.int w)] = .ok (.val (dT (rightL' L a ((a :: l).getLast (by simp))))) [vl (srcs L), vl (.int w)] := by
  have hf := g.few
  generalize hbb : (a :: l).getLast (by simp) = b
  let S := vl (srcs L)
  let W := vl (.int w)
  let T := vl (srcs (spans (canN L w)))
  let A := vl (.int a)
  let B := vl (.int b)
  let ρ0 : Rho := [S, W, .non, .non, .non, .non, .non, .non]
  let ρ1 : Rho := [S, W, T, .non, .non, .non, .non, .non]
  let ρ2 : Rho := [S, W, T, A, B, .non, .non, .non]
  have es := e_spans_if L g w h0 h1 (can_most g.toGood (by rw [q]; simp))
  have hs : sCall fn_spans_if [sVar 0, sVar 1] ρ0 = .ok (.val (srcs (spans (canN L w)))) ρ0 := call_v es rfl rfl rfl rfl rfl
  obtain ⟨k3, k4⟩ := ends_ok (ρ := ρ1) (i := 2) q rfl
  rw [hbb] at k4
  have kt := tup_ok (ev_two k3 k4) rfl
  have hc : sComp (sEnum (sVar 0)) (gT [gN 5, gT [gN 6, gN 7]]) (sAnd (sNat nLe [sVar 6, sVar 3]) (sNat nLe [sVar 4, sVar 7])) (sVar 5) [5, 6, 7] ρ2 = .ok (.new (.lst ((rightL' L a b).map .int))) ρ2 := by
    have := comp_ev (it := sEnum (sVar 0)) (t := gT [gN 5, gT [gN 6, gN 7]]) (c := sAnd (sNat nLe [sVar 6, sVar 3]) (sNat nLe [sVar 4, sVar 7])) (e := sVar 5) (vs := [5, 6, 7]) (ρ := ρ2) L.zipIdx (fun x => .tup [.int (x.2 : Int), srcD x.1])
      (fun x => decide (x.1.1 ≤ a) && decide (b ≤ x.1.2)) (fun x => .int (x.2 : Int)) (enum_srcs rfl) (fun x _ => ?_) (by simp; omega)
    · rw [this]; unfold rightL'; rw [List.map_map]; rfl
    · refine ⟨[S, W, T, A, B, vl (.int x.2), vl (.int x.1.1), vl (.int x.1.2)], rfl, ?_, rfl, fun _ => ⟨_, _, _, rfl, rfl, rfl⟩⟩
      exact and_b (nat_ok (ev_two rfl rfl) rfl rfl rfl) (nat_ok (ev_two rfl rfl) rfl rfl rfl)
  have hr : sNat nTuple [sComp (sEnum (sVar 0)) (gT [gN 5, gT [gN 6, gN 7]]) (sAnd (sNat nLe [sVar 6, sVar 3]) (sNat nLe [sVar 4, sVar 7])) (sVar 5) [5, 6, 7]] ρ2 = .ok (.val (dT (rightL' L a b))) ρ2 := nat_ok (ev_one hc) rfl (o := .val (dT (rightL' L a b))) rfl rfl
  have hb : body_surely_right ρ0 = .ret (.val (dT (rightL' L a b))) ρ2 := by
    refine (cons_nx (asg_ok (i := 2) (ρ3 := ρ1) hs rfl rfl)).trans ?_
    refine (cons_nx (asgT_ok (ρ3 := ρ2) kt rfl (two_g (gN_ok rfl rfl) (gN_ok rfl rfl)))).trans ?_
    exact cons_ret (ret_ok hr)
  exact run_r hb rfl rfl rfl rfl rfl
def meetB (x p : Int × Int) : Bool := decide (p.1 ≤ x.2) && decide (x.1 ≤ p.2)
/-- those that have nothing of some spans -/
def wrongL (L T : Src) : List Int := (L.zipIdx.filter fun x => !T.any (meetB x.1)).map fun x => (x.2 : Int)
theorem e_surely_wrong (L : Src) (g : Okay L) (w : Int) (h0 : 0 ≤ w) (h1 : w < L.length) (hc : canN L w ≠ []) (ht : (spans (canN L w)).length ≤ 100000) :
    fn_surely_wrong [vl (srcs L), vl (.int w)] = .ok (.val (dT (wrongL L (spans (canN L w))))) [vl (srcs L), vl (.int w)] := by
  have hf := g.few
  generalize hT : spans (canN L w) = T at ht
  let S := vl (srcs L)
  let W := vl (.int w)
  let TT := vl (srcs T)
  let ρ0 : Rho := [S, W, .non, .non, .non, .non, .non, .non, .non]
  let ρ1 : Rho := [S, W, TT, .own (.lst []) false, .non, .non, .non, .non, .non]
  have es := e_spans_if L g w h0 h1 (can_most g.toGood hc)
  rw [hT] at es
  have hs : sCall fn_spans_if [sVar 0, sVar 1] ρ0 = .ok (.val (srcs T)) ρ0 := call_v es rfl rfl rfl rfl rfl
  have s1 : sPar 2 3 (sCall fn_spans_if [sVar 0, sVar 1]) (sLst []) ρ0 = .nx ρ1 := par_ok (ev_two hs rfl) rfl rfl rfl rfl
  obtain ⟨ρ', e, s4, s5, s6, _, _, _, acc, _, ha, rfl⟩ := for_ev (t := gT [gN 4, gT [gN 5, gN 6]]) (F := sCons (sIfS (sNot (sNat nAny [sComp (sSeq (sVar 2)) (gT [gN 7, gN 8]) (sC (.bl true)) (sAnd (sNat nLe [sVar 7, sVar 6]) (sNat nLe [sVar 5, sVar 8])) [7, 8]])) (sCons (sExpr (sMut 3 mAppend [sVar 4])) (sNil)) (sNil)) (sNil))
    (fun x : (Int × Int) × Nat => .tup [.int (x.2 : Int), srcD x.1]) (fun R ρ => ∃ s4 s5 s6, s4.pinned = false ∧ s5.pinned = false ∧ s6.pinned = false ∧ ∃ acc : List Int, acc.length + R.length ≤ 100000 ∧ acc ++ (R.filter fun x => !T.any (meetB x.1)).map (fun x => (x.2 : Int)) = wrongL L T ∧ ρ = [S, W, TT, .own (.lst (acc.map .int)) false, s4, s5, s6, .non, .non])
    (fun x R ρ I => by
      obtain ⟨s4, s5, s6, p4, p5, p6, acc, hl, ha, rfl⟩ := I
      simp only [List.length_cons] at hl
      let ρ2 : Rho := [S, W, TT, .own (.lst (acc.map .int)) false, vl (.int x.2), vl (.int x.1.1), vl (.int x.1.2), .non, .non]
      have ka : sNat nAny [sComp (sSeq (sVar 2)) (gT [gN 7, gN 8]) (sC (.bl true)) (sAnd (sNat nLe [sVar 7, sVar 6]) (sNat nLe [sVar 5, sVar 8])) [7, 8]] ρ2 = .ok (.val (.bl (T.any (meetB x.1)))) ρ2 := by
        refine comp_any T srcD (meetB x.1) (seq_srcs rfl) (fun p _ => ⟨[S, W, TT, .own (.lst (acc.map .int)) false, vl (.int x.2), vl (.int x.1.1), vl (.int x.1.2), vl (.int p.1), vl (.int p.2)], _, rfl, and_b (nat_ok (ev_two rfl rfl) rfl rfl rfl) (nat_ok (ev_two rfl rfl) rfl rfl rfl), rfl, rfl⟩) ht
      have kn := not_ok ka
      have hg : gT [gN 4, gT [gN 5, gN 6]] (.tup [.int (x.2 : Int), srcD x.1]) [S, W, TT, .own (.lst (acc.map .int)) false, s4, s5, s6, .non, .non] = some ρ2 := by
        have r1 : gT [gN 5, gN 6] (srcD x.1) [S, W, TT, .own (.lst (acc.map .int)) false, vl (.int x.2), s5, s6, .non, .non] = some ρ2 := two_g (ρ1 := [S, W, TT, .own (.lst (acc.map .int)) false, vl (.int x.2), vl (.int x.1.1), s6, .non, .non]) (gN_ok rfl p5) (gN_ok rfl p6)
        have r2 : gN 4 (.int (x.2 : Int)) [S, W, TT, .own (.lst (acc.map .int)) false, s4, s5, s6, .non, .non] = some [S, W, TT, .own (.lst (acc.map .int)) false, vl (.int x.2), s5, s6, .non, .non] := gN_ok rfl p4
        exact two_gT r2 r1
      cases hm : T.any (meetB x.1) with
      | true =>
        rw [hm] at kn
        refine ⟨ρ2, ρ2, hg, (cons_nx ((ifs_ff kn).trans rfl)).trans rfl, _, _, _, rfl, rfl, rfl, acc, by omega, ?_, rfl⟩
        rw [← ha, List.filter_cons, if_neg (by rw [hm]; simp)]
      | false =>
        rw [hm] at kn
        let ρ3 : Rho := [S, W, TT, .own (.lst ((acc ++ [(x.2 : Int)]).map .int)) false, vl (.int x.2), vl (.int x.1.1), vl (.int x.1.2), .non, .non]
        have km : sMut 3 mAppend [sVar 4] ρ2 = .ok (.val .non) ρ3 := (app_ok (i := 3) (r := .val (.int (x.2 : Int))) (d := .int (x.2 : Int)) (ρ2 := ρ2) (ds := acc.map .int) (pn' := false) rfl rfl rfl rfl (by rw [List.length_map]; omega)).trans (by have e : (acc ++ [(x.2 : Int)]).map D.int = acc.map .int ++ [D.int (x.2 : Int)] := List.map_append; show _ = Rs.ok _ [S, W, TT, .own (.lst ((acc ++ [(x.2 : Int)]).map .int)) false, vl (.int x.2), vl (.int x.1.1), vl (.int x.1.2), .non, .non]; rw [e]; rfl)
        refine ⟨ρ2, ρ3, hg, (cons_nx ((ifs_tt kn).trans ((cons_nx (expr_ok km)).trans rfl))).trans rfl, _, _, _, rfl, rfl, rfl, acc ++ [(x.2 : Int)], (by rw [List.length_append]; show acc.length + 1 + R.length ≤ 100000; omega), ?_, rfl⟩
        rw [← ha, List.filter_cons, if_pos (by rw [hm]; rfl)]
        simp) L.zipIdx ρ1 ⟨.non, .non, .non, rfl, rfl, rfl, [], (by show 0 + L.zipIdx.length ≤ 100000; rw [List.length_zipIdx]; omega), rfl, rfl⟩
  rw [List.filter_nil, List.map_nil, List.append_nil] at ha
  subst ha
  have kr : sNat nTuple [sVar 3] [S, W, TT, .own (.lst ((wrongL L T).map .int)) false, s4, s5, s6, .non, .non] = .ok (.val (dT (wrongL L T))) _ := nat_ok (ev_one rfl) rfl (o := .val (dT (wrongL L T))) rfl rfl
  have hb : body_surely_wrong ρ0 = .ret (.val (dT (wrongL L T))) [S, W, TT, .own (.lst ((wrongL L T).map .int)) false, s4, s5, s6, .non, .non] :=
    (cons_nx s1).trans ((cons_nx (for_ok (enum_srcs rfl) e)).trans (cons_ret (ret_ok kr)))
  exact run_r hb rfl rfl rfl rfl rfl
end Sa

namespace Sa
open PySem L2 Xc

/-! ## What is raised, at its values -/
section
variable {a b r : RR} {e : SS} {f : SE} {i n np N : Nat} {ρ ρ1 : Rho} {d : D} {ds : List D} {p : Bool} {x : Nat × D} {rx : RX} {fs : List SE}
theorem rOr_l (h : a ρ = some x) : rOr a b ρ = some x := by simp only [rOr, h]
theorem rOr_r (h : a ρ = none) : rOr a b ρ = b ρ := by simp only [rOr, h]
theorem rSeq_ok (h : e ρ = .nx ρ1) (no : noOwn ρ1 = true) : rSeq e r ρ = r ρ1 := by simp only [rSeq, h, no, if_true]
theorem rIf_t (h : f ρ = .ok (.val (.bl true)) ρ1) (no : noOwn ρ1 = true) (g : ρ1[i]? = some (.val d p)) : rIf f i n r ρ = some (n, d) := by simp only [rIf, h, no, if_true, g]
theorem rIf_f (h : f ρ = .ok (.val (.bl false)) ρ1) (no : noOwn ρ1 = true) : rIf f i n r ρ = r ρ1 := by simp only [rIf, h, no, if_true]
theorem rDef_eq (h : ds.length = np) : rDef np N r ds = r ((dsl ds).map pin1 ++ List.replicate (N - np) .non) := if_pos h
theorem rCall_ok (h : argsD fs ρ = some ds) : rCall fs rx ρ = rx ds := by simp only [rCall, h]
end
theorem args1 {ρ : Rho} {d : D} {p : Bool} {i : Nat} (h : ρ[i]? = some (.val d p)) : argsD [sVar i] ρ = some [d] := by
  simp only [argsD, evs, sVar, h, Rs.bind_ok, datas, Option.map_some]
theorem args2 {ρ : Rho} {d e : D} {p q : Bool} {i j : Nat} (h : ρ[i]? = some (.val d p)) (h2 : ρ[j]? = some (.val e q)) : argsD [sVar i, sVar j] ρ = some [d, e] := by
  simp only [argsD, evs, sVar, h, h2, Rs.bind_ok, datas, Option.map_some]
theorem args3 {ρ : Rho} {d e f : D} {p q r : Bool} {i j k : Nat} (h : ρ[i]? = some (.val d p)) (h2 : ρ[j]? = some (.val e q)) (h3 : ρ[k]? = some (.val f r)) : argsD [sVar i, sVar j, sVar k] ρ = some [d, e, f] := by
  simp only [argsD, evs, sVar, h, h2, h3, Rs.bind_ok, datas, Option.map_some]
/-- whether a value is a whole number between -/
def okB (d : D) (a b : Int) : Bool := match d with
  | .int n => decide (a ≤ n) && decide (n ≤ b)
  | _ => false
theorem kits : kitB "bool" "int" = some true ∧ kitB "bool" "bool" = some true ∧ kitB "NoneType" "int" = some false ∧ kitB "str" "int" = some false ∧ kitB "tuple" "int" = some false ∧ kitB "list" "int" = some false := by decide +kernel
def isInt (d : D) : Bool := match d with
  | .int _ => true
  | _ => false
theorem e_is_integer' (d : D) : fn_is_integer [vl d] = .ok (.val (.bl (isInt d))) [vl d] := by
  obtain ⟨k1, k2, k3, k4, k5, k6⟩ := kits
  cases d with
  | int n => exact e_is_integer n
  | non =>
    refine run_r (r := .val (.bl false)) (ρ := [vl .non]) (body := body_is_integer) (ρ0 := [vl .non]) (cons_ret (ret_ok ?_)) rfl rfl rfl rfl rfl
    simp [sAnd, sNot, sNat, sVar, evs, Rs.bind, Rs.opt, views, view, NO.r, nIsi, D.ty, k3]
  | bl b =>
    refine run_r (r := .val (.bl false)) (ρ := [vl (.bl b)]) (body := body_is_integer) (ρ0 := [vl (.bl b)]) (cons_ret (ret_ok ?_)) rfl rfl rfl rfl rfl
    simp [sAnd, sNot, sNat, sVar, evs, Rs.bind, Rs.opt, views, view, NO.r, nIsi, D.ty, k1, k2]
  | str s =>
    refine run_r (r := .val (.bl false)) (ρ := [vl (.str s)]) (body := body_is_integer) (ρ0 := [vl (.str s)]) (cons_ret (ret_ok ?_)) rfl rfl rfl rfl rfl
    simp [sAnd, sNot, sNat, sVar, evs, Rs.bind, Rs.opt, views, view, NO.r, nIsi, D.ty, k4]
  | tup s =>
    refine run_r (r := .val (.bl false)) (ρ := [vl (.tup s)]) (body := body_is_integer) (ρ0 := [vl (.tup s)]) (cons_ret (ret_ok ?_)) rfl rfl rfl rfl rfl
    simp [sAnd, sNot, sNat, sVar, evs, Rs.bind, Rs.opt, views, view, NO.r, nIsi, D.ty, k5]
  | lst s =>
    refine run_r (r := .val (.bl false)) (ρ := [vl (.lst s)]) (body := body_is_integer) (ρ0 := [vl (.lst s)]) (cons_ret (ret_ok ?_)) rfl rfl rfl rfl rfl
    simp [sAnd, sNot, sNat, sVar, evs, Rs.bind, Rs.opt, views, view, NO.r, nIsi, D.ty, k6]
theorem e_btw (d : D) (a b : Int) : fn_is_between [vl d, vl (.int a), vl (.int b)] = .ok (.val (.bl (okB d a b))) [vl d, vl (.int a), vl (.int b)] := by
  cases h : isInt d with
  | true =>
    cases d with
    | int n => exact e_is_between n a b
    | _ => cases h
  | false =>
    have ho : okB d a b = false := by cases d with
      | int n => cases h
      | _ => rfl
    have c : sCall fn_is_integer [sVar 0] [vl d, vl (.int a), vl (.int b)] = .ok (.val (.bl false)) [vl d, vl (.int a), vl (.int b)] := by
      have := e_is_integer' d
      rw [h] at this
      exact call_v this rfl rfl rfl rfl rfl
    rw [ho]
    exact run_r (r := .val (.bl false)) (ρ := [vl d, vl (.int a), vl (.int b)]) (body := body_is_between) (ρ0 := [vl d, vl (.int a), vl (.int b)]) (cons_ret (ret_ok (and_ff c))) rfl rfl rfl rfl rfl
theorem btw_b {d : D} {a b : Int} {fs : List SE} {ρ : Rho} (h : evs fs ρ = .ok [.val d, .val (.int a), .val (.int b)] ρ) : sCall fn_is_between fs ρ = .ok (.val (.bl (okB d a b))) ρ := call_v (e_btw d a b) h rfl rfl rfl rfl
/-- `not is_between(..)`: raised -/
theorem rbtw {d : D} {a b : Int} {fs : List SE} {ρ : Rho} {i n : Nat} {r : RR} {p : Bool} (h : evs fs ρ = .ok [.val d, .val (.int a), .val (.int b)] ρ) (no : noOwn ρ = true) (g : ρ[i]? = some (.val d p)) (hb : okB d a b = false) : rIf (sNot (sCall fn_is_between fs)) i n r ρ = some (n, d) := by
  have c := not_ok (btw_b h)
  rw [hb] at c
  exact rIf_t c no g
theorem rbtw_no {d : D} {a b : Int} {fs : List SE} {ρ : Rho} {i n : Nat} {r : RR} (h : evs fs ρ = .ok [.val d, .val (.int a), .val (.int b)] ρ) (no : noOwn ρ = true) (hb : okB d a b = true) : rIf (sNot (sCall fn_is_between fs)) i n r ρ = r ρ := by
  have c := not_ok (btw_b h)
  rw [hb] at c
  exact rIf_f c no
/-! ### bad sources: each def raises -/
section
variable {d e f : D}
theorem bad_check_wrong (h : rx_check_sources [d] = some (0, d)) : rx_check_wrong [d, e] = some (0, d) := (rDef_eq rfl).trans (rOr_l ((rCall_ok (args1 rfl)).trans h))
theorem bad_have (h : rx_check_sources [d] = some (0, d)) : rx_have [d, e] = some (0, d) := (rDef_eq rfl).trans (rOr_l ((rCall_ok (args1 rfl)).trans h))
theorem bad_agreed (h : rx_check_sources [d] = some (0, d)) : rx_agreed [d, e] = some (0, d) := (rDef_eq rfl).trans (rOr_l ((rCall_ok (args1 rfl)).trans h))
theorem bad_best (h : rx_check_sources [d] = some (0, d)) : rx_best_agreed [d] = some (0, d) := (rDef_eq rfl).trans (rOr_l ((rCall_ok (args1 rfl)).trans h))
theorem bad_lots (h : rx_check_sources [d] = some (0, d)) : rx_lots_right [d] = some (0, d) := (rDef_eq rfl).trans (rOr_l ((rCall_ok (args1 rfl)).trans h))
theorem bad_weighed (h : rx_check_sources [d] = some (0, d)) : rx_weighed [d, e, f] = some (0, d) := (rDef_eq rfl).trans (rOr_l ((rCall_ok (args1 rfl)).trans h))
variable {x : Nat × D}
theorem w_truth (h : rx_check_wrong [d, e] = some x) : rx_truth_spans [d, e] = some x := (rDef_eq rfl).trans (rOr_l ((rCall_ok (args2 rfl rfl)).trans h))
theorem w_spans_if (h : rx_check_wrong [d, e] = some x) : rx_spans_if [d, e] = some x := (rDef_eq rfl).trans (rOr_l ((rCall_ok (args2 rfl rfl)).trans h))
theorem w_trimmed (h : rx_check_wrong [d, e] = some x) : rx_trimmed [d, e] = some x := (rDef_eq rfl).trans (rOr_l ((rCall_ok (args2 rfl rfl)).trans h))
theorem w_pulled (h : rx_check_wrong [d, e] = some x) : rx_pulled [d, e, f] = some x := (rDef_eq rfl).trans (rOr_l ((rCall_ok (args2 rfl rfl)).trans h))
theorem s_hull (h : rx_spans_if [d, e] = some x) : rx_hull [d, e] = some x := (rDef_eq rfl).trans (rOr_l ((rCall_ok (args2 rfl rfl)).trans h))
theorem s_right (h : rx_spans_if [d, e] = some x) : rx_surely_right [d, e] = some x := (rDef_eq rfl).trans (rOr_l ((rCall_ok (args2 rfl rfl)).trans h))
theorem s_wrong (h : rx_spans_if [d, e] = some x) : rx_surely_wrong [d, e] = some x := (rDef_eq rfl).trans (rOr_l ((rCall_ok (args2 rfl rfl)).trans h))
end
/-! ### good sources -/
theorem no_check (L : Src) (g : Okay L) : rx_check_sources [srcs L] = none := by
  have hl : 0 < L.length := List.length_pos_iff.mpr g.ne
  have hf := g.few
  have e1 : sOr (sNot (sNat (nIsi "tuple") [sVar 0])) (sNot (sChain nLt nLe (sC (.int 0)) (sNat nLen [sVar 0]) (sC (.int 20)))) [vl (srcs L), .non] = .ok (.val (.bl false)) [vl (srcs L), .non] := by
    have hf' : decide ((L.length : Int) ≤ 20) = true := decide_eq_true (by omega)
    simp [sAnd, sOr, sNot, sIf, sChain, sNat, sVar, sC, sTup, sLst, evs, Rs.bind, Rs.opt, Rs.out, views, view, frz, frzs, NO.r, mv, oOpt, stSl, Sl.pinned, List.getElem?_cons_zero, List.getElem?_cons_succ, nIsi, D.ty, srcs, kit_tt, nLen, nLt, nLe, sNil, hl, hf']
  have hc : sComp (sSeq (sVar 0)) (gN 1) (sC (.bl true)) (sCall fn_is_source [sVar 1]) [1] [vl (srcs L), .non] = .ok (.new (.lst (L.map fun _ => .bl true))) [vl (srcs L), .non] := by
    refine comp_all L srcD (fun _ => .bl true) (seq_srcs rfl) (fun a ha => ?_) (by omega)
    obtain ⟨b1, b2⟩ := g.bd a ha
    have h := e_is_source a b1 (g.le a ha) b2
    exact ⟨[vl (srcs L), vl (srcD a)], .val (.bl true), [vl (srcs L), vl (srcD a)], [vl (srcs L), vl (srcD a)], rfl, call_v h rfl rfl rfl rfl rfl, rfl, rfl, rfl⟩
  have hb : nAll [.lst (L.map fun _ => D.bl true)] = some (.val (.bl true)) := by
    have := bls_map (fun _ => true) L
    simp only [nAll, this, Option.map_some]
    congr 3
    simp
  have e2 : sNot (sNat nAll [sComp (sSeq (sVar 0)) (gN 1) (sC (.bl true)) (sCall fn_is_source [sVar 1]) [1]]) [vl (srcs L), .non] = .ok (.val (.bl false)) [vl (srcs L), .non] := not_ok (nat_ok (ev_one hc) rfl hb rfl)
  exact (rDef_eq rfl).trans ((rIf_f e1 rfl).trans ((rIf_f e2 rfl).trans rfl))
section
variable {L : Src} {d : D}
theorem x_have (g : Okay L) (h : okB d (-199998) 199998 = false) : rx_have [srcs L, d] = some (1, d) :=
  (rDef_eq rfl).trans ((rOr_r ((rCall_ok (args1 rfl)).trans (no_check L g))).trans ((rSeq_ok (chk L g rfl) rfl).trans (rbtw (a := -199998) (b := 199998) rfl rfl rfl h)))
theorem lenI (L : Src) {i : Nat} {ρ : Rho} {p : Bool} (h : ρ[i]? = some (.val (srcs L) p)) {k : Int} : sNat nSub [sNat nLen [sVar i], sC (.int k)] ρ = .ok (.val (.int ((L.length : Int) - k))) ρ := nat_ok (ev_two (len_srcs L h) rfl) rfl rfl rfl
theorem x_agreed (g : Okay L) (h : okB d 1 L.length = false) : rx_agreed [srcs L, d] = some (1, d) :=
  (rDef_eq rfl).trans ((rOr_r ((rCall_ok (args1 rfl)).trans (no_check L g))).trans ((rSeq_ok (chk L g rfl) rfl).trans (rbtw (a := 1) (b := L.length) (ev_cons rfl (ev_two rfl (len_srcs L rfl))) rfl rfl h)))
theorem x_check_wrong (g : Okay L) (h : okB d 0 ((L.length : Int) - 1) = false) : rx_check_wrong [srcs L, d] = some (1, d) :=
  (rDef_eq rfl).trans ((rOr_r ((rCall_ok (args1 rfl)).trans (no_check L g))).trans ((rSeq_ok (chk L g rfl) rfl).trans (rbtw (a := 0) (b := (L.length : Int) - 1) (ev_cons rfl (ev_two rfl (lenI L rfl))) rfl rfl h)))
theorem no_check_wrong (g : Okay L) (h : okB d 0 ((L.length : Int) - 1) = true) : rx_check_wrong [srcs L, d] = none :=
  (rDef_eq rfl).trans ((rOr_r ((rCall_ok (args1 rfl)).trans (no_check L g))).trans ((rSeq_ok (chk L g rfl) rfl).trans ((rbtw_no (a := 0) (b := (L.length : Int) - 1) (ev_cons rfl (ev_two rfl (lenI L rfl))) rfl h).trans rfl)))
theorem chkW (g : Okay L) {k : Int} (h1 : 0 ≤ k) (h2 : k < L.length) {ρ : Rho} (a : ρ[0]? = some (vl (srcs L))) (b : ρ[1]? = some (vl (.int k))) : sExpr (sCall fn_check_wrong [sVar 0, sVar 1]) ρ = .nx ρ :=
  have s0 : sVar 0 ρ = .ok (.val (srcs L)) ρ := by simp only [sVar, a]
  have s1 : sVar 1 ρ = .ok (.val (.int k)) ρ := by simp only [sVar, b]
  expr_ok (call_v (e_wrong L g k h1 h2) (ev_two s0 s1) rfl rfl rfl rfl)
theorem okB_in {k a b : Int} (h1 : a ≤ k) (h2 : k ≤ b) : okB (.int k) a b = true := by
  show (decide (a ≤ k) && decide (k ≤ b)) = true
  rw [decide_eq_true h1, decide_eq_true h2]
  rfl
theorem x_pulled0 (g : Okay L) (h : okB d 0 ((L.length : Int) - 1) = false) : rx_pulled [srcs L, .int 0, d] = some (1, d) := by
  have hl : 0 < L.length := List.length_pos_iff.mpr g.ne
  exact (rDef_eq rfl).trans ((rOr_r ((rCall_ok (args2 rfl rfl)).trans (no_check_wrong g (okB_in (by omega) (by omega))))).trans ((rSeq_ok (chkW g (k := 0) (by omega) (by omega) rfl rfl) rfl).trans (rbtw (a := 0) (b := (L.length : Int) - 1) (ev_cons rfl (ev_two rfl (lenI L rfl))) rfl rfl h)))
theorem x_more (g : Okay L) {k : Int} (h1 : 0 ≤ k) (h2 : k < L.length) (hm : k < (L.length : Int) - most L) : rx_spans_if [srcs L, .int k] = some (3, .int ((L.length : Int) - most L)) := by
  have c : couldD L k = .tup [.str "more", .int ((L.length : Int) - most L)] := if_pos hm
  have hc := e_could L g k
  rw [c] at hc
  let ρ0 : Rho := [vl (srcs L), vl (.int k), .non, .non]
  have s2 : sAsgT (gT [gN 2, gN 3]) (sCall fn_told_could [sVar 0, sVar 1]) ρ0 = .nx [vl (srcs L), vl (.int k), vl (.str "more"), vl (.int ((L.length : Int) - most L))] := asgT_ok (call_v hc (ev_two rfl rfl) rfl rfl rfl rfl) rfl (two_g (gN_ok rfl rfl) (gN_ok rfl rfl))
  have s3 : sNat nEqS [sVar 2, sC (.str "more")] [vl (srcs L), vl (.int k), vl (.str "more"), vl (.int ((L.length : Int) - most L))] = .ok (.val (.bl true)) [vl (srcs L), vl (.int k), vl (.str "more"), vl (.int ((L.length : Int) - most L))] := nat_ok (ev_two rfl rfl) rfl (by rfl) rfl
  exact (rDef_eq rfl).trans ((rOr_r ((rCall_ok (args2 rfl rfl)).trans (no_check_wrong g (okB_in h1 (by omega))))).trans ((rSeq_ok (chkW g h1 h2 rfl rfl) rfl).trans ((rSeq_ok s2 rfl).trans (rIf_t s3 rfl rfl))))
end
end Sa

namespace Sa
open PySem L2 Xc
/-! ## weighed -/
section
variable {L : Src} {d wv e : D} {ws : List D}
abbrev W1 : SE := sOr (sNot (sNat (nIsi "tuple") [sVar 1])) (sNat nNeS [sNat nLen [sVar 1], sNat nLen [sVar 0]])
abbrev W2 : SE := sNot (sNat nAll [sComp (sSeq (sVar 1)) (gN 4) (sC (.bl true)) (sCall fn_is_between [sVar 4, sC (.int 0), sC (.int 99)]) [4]])
abbrev WS (L : Src) (wv e : D) : Rho := [vl (srcs L), vl wv, vl e, .non, .non, .non, .non, .non, .non]
theorem kit_nt : kitB "NoneType" "tuple" = some false ∧ kitB "list" "tuple" = some false := by decide +kernel
theorem w1_non : W1 (WS L .non e) = .ok (.val (.bl true)) (WS L .non e) := by
  have c : sNat (nIsi "tuple") [sVar 1] (WS L .non e) = .ok (.val (.bl false)) (WS L .non e) := nat_ok (ev_one rfl) rfl (o := .val (.bl false)) (by simp [nIsi, D.ty, kit_nt.1]) rfl
  simp only [W1, sOr, not_ok c, Rs.bind_ok]
  rfl
theorem w1_lst {l : List D} : W1 (WS L (.lst l) e) = .ok (.val (.bl true)) (WS L (.lst l) e) := by
  have c : sNat (nIsi "tuple") [sVar 1] (WS L (.lst l) e) = .ok (.val (.bl false)) (WS L (.lst l) e) := nat_ok (ev_one rfl) rfl (o := .val (.bl false)) (by simp [nIsi, D.ty, kit_nt.2]) rfl
  simp only [W1, sOr, not_ok c, Rs.bind_ok]
  rfl
theorem w1_tup (ws : List D) : W1 (WS L (.tup ws) e) = .ok (.val (.bl (!decide ((ws.length : Int) = (L.length : Int))))) (WS L (.tup ws) e) := by
  have c : sNat (nIsi "tuple") [sVar 1] (WS L (.tup ws) e) = .ok (.val (.bl true)) (WS L (.tup ws) e) := nat_ok (ev_one rfl) rfl (o := .val (.bl true)) (by simp [nIsi, D.ty, kit_tt]) rfl
  have c1 : sNat nLen [sVar 1] (WS L (.tup ws) e) = .ok (.val (.int (ws.length : Int))) (WS L (.tup ws) e) := nat_ok (ev_one rfl) rfl (o := .val (.int (ws.length : Int))) rfl rfl
  exact or_ff (not_ok c) (nat_ok (ev_two c1 (len_srcs L rfl)) rfl (neS_i _ _) rfl)
theorem w2_tup (ws : List D) (hl : ws.length ≤ 1000) : W2 (WS L (.tup ws) e) = .ok (.val (.bl (!ws.all fun w => okB w 0 99))) (WS L (.tup ws) e) := by
  refine not_ok (comp_every ws id (fun w => okB w 0 99) ?_ (fun w _ => ⟨_, _, rfl, btw_b (d := w) (a := 0) (b := 99) rfl, rfl, rfl⟩) (by omega))
  rw [List.map_id]
  rfl
theorem to_w (g : Okay L) (r : RR) (h : rr_weighed (WS L wv e) = rOr (rCall [sVar 0] rx_check_sources) (rSeq (sExpr (sCall fn_check_sources [sVar 0])) r) (WS L wv e)) : rx_weighed [srcs L, wv, e] = r (WS L wv e) :=
  (rDef_eq rfl).trans (h.trans ((rOr_r ((rCall_ok (args1 rfl)).trans (no_check L g))).trans (rSeq_ok (chk L g rfl) rfl)))
theorem x_w_non (g : Okay L) : rx_weighed [srcs L, .non, e] = some (2, .non) := (to_w g _ rfl).trans (rIf_t w1_non rfl rfl)
theorem x_w_lst {l : List D} (g : Okay L) : rx_weighed [srcs L, .lst l, e] = some (2, .lst l) := (to_w g _ rfl).trans (rIf_t w1_lst rfl rfl)
theorem x_w_len (g : Okay L) (h : ws.length ≠ L.length) : rx_weighed [srcs L, .tup ws, e] = some (2, .tup ws) := by
  have c := w1_tup (L := L) (e := e) ws
  rw [decide_eq_false (by omega)] at c
  exact (to_w g _ rfl).trans (rIf_t c rfl rfl)
theorem x_w_bad (g : Okay L) (h : ws.length = L.length) (hb : (ws.all fun w => okB w 0 99) = false) : rx_weighed [srcs L, .tup ws, e] = some (2, .tup ws) := by
  have hf := g.few
  have c := w1_tup (L := L) (e := e) ws
  rw [decide_eq_true (by omega)] at c
  have c2 := w2_tup (L := L) (e := e) ws (by omega)
  rw [hb] at c2
  exact (to_w g _ rfl).trans ((rIf_f c rfl).trans (rIf_t c2 rfl rfl))
theorem x_w_en (g : Okay L) (h : ws.length = L.length) (hb : (ws.all fun w => okB w 0 99) = true) (he : okB e 1 1980 = false) : rx_weighed [srcs L, .tup ws, e] = some (1, e) := by
  have hf := g.few
  have c := w1_tup (L := L) (e := e) ws
  rw [decide_eq_true (by omega)] at c
  have c2 := w2_tup (L := L) (e := e) ws (by omega)
  rw [hb] at c2
  exact (to_w g _ rfl).trans ((rIf_f c rfl).trans ((rIf_f c2 rfl).trans (rbtw (a := 1) (b := 1980) rfl rfl rfl he)))
end
/-! ## the odd values -/
def NN (L : Src) : List D := [.non, .tup [], .lst (L.map srcD), .tup [.tup [.int 2, .int 1]], .tup [.tup [.int 0, .int 100000]], .tup [.tup [.int 0, .bl true]], .tup [.tup [.int 0]], .tup [.int 0, .int 1], .tup (List.replicate 21 (.tup [.int 0, .int 1]))]
theorem bad_nn {L : Src} {d : D} (h : d ∈ NN L) : rx_check_sources [d] = some (0, d) := by
  simp only [NN, List.mem_cons, List.not_mem_nil, or_false] at h
  rcases h with h | h | h | h | h | h | h | h | h <;> subst h
  all_goals kernel_rfl
def Sm (d : D) : Prop := d.rsz ≤ 90000 ∧ d.py.depth ≤ 50
theorem rsz_two (s d : D) : (D.tup [.lst [s], d]).rsz ≤ s.rsz + d.rsz + 40 := by
  simp only [D.rsz, D.rszs, List.length_cons, List.length_nil]
  omega
theorem sm_repr {d : D} {n : Nat} (h : Sm d) (hn : n < 4) : ∃ z, nRepr [.tup [.lst [.str (lab n)], d]] = some (.val (.str z)) := by
  have hs : (D.str (lab n)).rsz ≤ 1000 := by
    match n, hn with
    | 0, _ => decide +kernel
    | 1, _ => decide +kernel
    | 2, _ => decide +kernel
    | 3, _ => decide +kernel
  have h1 := rsz_two (.str (lab n)) d
  refine ⟨_, repr_ok (by have := h.1; omega) ?_⟩
  have := h.2
  simp only [D.py, D.pys, PyData.depth, PyData.depthAll]
  omega
theorem leOk_of {e : LE} {ρ ρ' : Rho} {d : D} (h1 : rCall e.fs e.rx (dropO ρ) = some (e.n, d)) (hn : e.n < 4) (h2 : e.val (dropO ρ) = .ok (.val d) ρ') (h3 : Sm d) : leOk e ρ = true := by
  obtain ⟨z, hz⟩ := sm_repr h3 hn
  simp [leOk, h1, h2, hz, hn]
end Sa

namespace Sa
open PySem L2 Xc
def FF : List D := [.non, .int 199999, .int (-199999), .bl true, .str "1"]
def BB : List D := [.non, .int (-1), .bl true, .str "1", .tup [.int 1]]
def WWo (m : Nat) : List D := [.non, .int m, .int (-1), .bl true, .str "1"]
def SSo (m : Nat) : List D := [.non, .int 0, .int ((m : Int) + 1), .bl true, .str "1"]
def GG (m : Nat) : List D := [.non, .tup (List.replicate (m + 1) (.int 1)), .lst (List.replicate m (.int 1)), .tup (List.replicate m (.bl true)), .tup (List.replicate m (.int 100)), .tup (List.replicate m (.int (-1)))]
theorem sm_nn {L : Src} {d : D} (hl : L.length ≤ 20) (hs : ∀ p ∈ L, smallI p.1 ∧ smallI p.2) (h : d ∈ NN L) : Sm d := by
  simp only [NN, List.mem_cons, List.not_mem_nil, or_false] at h
  rcases h with h | h | h | h | h | h | h | h | h <;> subst h
  · exact ⟨by decide +kernel, by decide +kernel⟩
  · exact ⟨by decide +kernel, by decide +kernel⟩
  · have h1 := rszs_srcs L hs
    have h2 := dep_srcs L
    refine ⟨?_, ?_⟩
    · simp only [D.rsz, List.length_map]
      omega
    · simp only [D.py, PyData.depth]
      omega
  all_goals exact ⟨by decide +kernel, by decide +kernel⟩
theorem seven {m : Nat} (h0 : 0 < m) (h : m ≤ 7) : m = 1 ∨ m = 2 ∨ m = 3 ∨ m = 4 ∨ m = 5 ∨ m = 6 ∨ m = 7 := by omega
theorem sm_ff {d : D} (h : d ∈ FF) : Sm d ∧ okB d (-199998) 199998 = false := by
  simp only [FF, List.mem_cons, List.not_mem_nil, or_false] at h
  rcases h with h | h | h | h | h <;> subst h
  all_goals exact ⟨⟨by decide +kernel, by decide +kernel⟩, by decide +kernel⟩
theorem sm_bb {d : D} {m : Nat} (h : d ∈ BB) : Sm d ∧ okB d 0 ((m : Int) - 1) = false ∧ okB d 1 1980 = false := by
  simp only [BB, List.mem_cons, List.not_mem_nil, or_false] at h
  rcases h with h | h | h | h | h <;> subst h
  · exact ⟨⟨by decide +kernel, by decide +kernel⟩, rfl, rfl⟩
  · exact ⟨⟨by decide +kernel, by decide +kernel⟩, by simp [okB], rfl⟩
  all_goals exact ⟨⟨by decide +kernel, by decide +kernel⟩, rfl, rfl⟩
theorem sm_ww {d : D} {m : Nat} (h0 : 0 < m) (h7 : m ≤ 7) (h : d ∈ WWo m) : Sm d ∧ okB d 0 ((m : Int) - 1) = false := by
  simp only [WWo, List.mem_cons, List.not_mem_nil, or_false] at h
  rcases seven h0 h7 with z | z | z | z | z | z | z <;> subst z <;> rcases h with h | h | h | h | h <;> subst h
  all_goals exact ⟨⟨by decide +kernel, by decide +kernel⟩, by decide +kernel⟩
theorem sm_ss {d : D} {m : Nat} (h0 : 0 < m) (h7 : m ≤ 7) (h : d ∈ SSo m) : Sm d ∧ okB d 1 (m : Int) = false := by
  simp only [SSo, List.mem_cons, List.not_mem_nil, or_false] at h
  rcases seven h0 h7 with z | z | z | z | z | z | z <;> subst z <;> rcases h with h | h | h | h | h <;> subst h
  all_goals exact ⟨⟨by decide +kernel, by decide +kernel⟩, by decide +kernel⟩
theorem sm_gg {d : D} {m : Nat} (h0 : 0 < m) (h7 : m ≤ 7) (h : d ∈ GG m) : Sm d := by
  simp only [GG, List.mem_cons, List.not_mem_nil, or_false] at h
  rcases seven h0 h7 with z | z | z | z | z | z | z <;> subst z <;> rcases h with h | h | h | h | h | h <;> subst h
  all_goals exact ⟨by decide +kernel, by decide +kernel⟩
theorem all_rep {m : Nat} {d : D} {f : D → Bool} {b : Bool} (h0 : 0 < m) (h : f d = b) : (List.replicate m d).all f = b := by
  cases m with
  | zero => omega
  | succ m =>
    induction m with
    | zero => simp [h]
    | succ m ih =>
      rw [List.replicate_succ, List.all_cons, ih (by omega), h, Bool.and_self]
theorem gg_bad {L : Src} {d e : D} (g : Okay L) (h : d ∈ GG L.length) : rx_weighed [srcs L, d, e] = some (2, d) := by
  have h0 : 0 < L.length := List.length_pos_iff.mpr g.ne
  simp only [GG, List.mem_cons, List.not_mem_nil, or_false] at h
  rcases h with h | h | h | h | h | h <;> subst h
  · exact x_w_non g
  · exact x_w_len g (by rw [List.length_replicate]; omega)
  · exact x_w_lst g
  · exact x_w_bad g (by rw [List.length_replicate]) (all_rep h0 rfl)
  · exact x_w_bad g (by rw [List.length_replicate]) (all_rep h0 (by decide))
  · exact x_w_bad g (by rw [List.length_replicate]) (all_rep h0 (by decide))
theorem more2 : rx_spans_if [srcs [(0, 1), (5, 6)], .int 0] = some (3, .int 1) := by
  have g : Okay [(0, 1), (5, 6)] := ⟨⟨by simp, by decide⟩, by decide, by decide⟩
  have h : most [(0, 1), (5, 6)] = 1 := by decide +kernel
  have := x_more g (k := 0) (by decide) (by decide) (by rw [h]; decide)
  rw [h] at this
  exact this
theorem more3 : rx_spans_if [srcs [(0, 1), (5, 6), (9, 9)], .int 1] = some (3, .int 2) := by
  have g : Okay [(0, 1), (5, 6), (9, 9)] := ⟨⟨by simp, by decide⟩, by decide, by decide⟩
  have h : most [(0, 1), (5, 6), (9, 9)] = 1 := by decide +kernel
  have := x_more g (k := 1) (by decide) (by decide) (by rw [h]; decide)
  rw [h] at this
  exact this
theorem c24 (ρ : Rho) : argsD [sTup [sTup [sC (.int 0), sC (.int 1)], sTup [sC (.int 5), sC (.int 6)]], sC (.int 0)] ρ = some [srcs [(0, 1), (5, 6)], .int 0] := by
  simp only [argsD, evs, sTup, sC, Rs.bind_ok, frzs, frz, Option.bind_some, Rs.opt_some, datas, Option.map_some]
  rfl
theorem c25 (ρ : Rho) : argsD [sTup [sTup [sC (.int 0), sC (.int 1)], sTup [sC (.int 5), sC (.int 6)], sTup [sC (.int 9), sC (.int 9)]], sC (.int 1)] ρ = some [srcs [(0, 1), (5, 6), (9, 9)], .int 1] := by
  simp only [argsD, evs, sTup, sC, Rs.bind_ok, frzs, frz, Option.bind_some, Rs.opt_some, datas, Option.map_some]
  rfl
theorem sm_int (i : Int) (h : i.natAbs < 10 ^ 12) : Sm (.int i) := by
  have e : (D.int i).rsz = 13 := if_pos h
  exact ⟨by rw [e]; omega, Nat.zero_le _⟩
theorem looks_ok {L : Src} {nv gv bv fv wv sv : D} {ρ : Rho} (g : Okay L) (h7 : L.length ≤ 7) (hs : ∀ p ∈ L, smallI p.1 ∧ smallI p.2) (mn : nv ∈ NN L) (hg : gv ∈ GG L.length) (mb : bv ∈ BB) (mf : fv ∈ FF) (mw : wv ∈ WWo L.length) (ms : sv ∈ SSo L.length)
    (q3 : (dropO ρ)[3]? = some (vl nv)) (q4 : (dropO ρ)[4]? = some (vl gv)) (q5 : (dropO ρ)[5]? = some (vl (.tup (List.replicate L.length (.int 1))))) (q8 : (dropO ρ)[8]? = some (vl (srcs L))) (q10 : (dropO ρ)[10]? = some (vl bv)) (q11 : (dropO ρ)[11]? = some (vl fv))
    (q12 : (dropO ρ)[12]? = some (vl wv)) (q13 : (dropO ρ)[13]? = some (vl sv)) : looksE.all (fun e => leOk e ρ) = true := by
  have h0 : 0 < L.length := List.length_pos_iff.mpr g.ne
  have hn := bad_nn mn
  have sn := sm_nn (by omega) hs mn
  obtain ⟨sb, hb1, hb2⟩ := sm_bb (m := L.length) mb
  obtain ⟨sf, hfv⟩ := sm_ff mf
  obtain ⟨sw, hw⟩ := sm_ww h0 h7 mw
  obtain ⟨ss, hsv⟩ := sm_ss h0 h7 ms
  have sg := sm_gg h0 h7 hg
  have v3 : sVar 3 (dropO ρ) = .ok (.val nv) (dropO ρ) := by simp only [sVar, q3]
  have v4 : sVar 4 (dropO ρ) = .ok (.val gv) (dropO ρ) := by simp only [sVar, q4]
  have v10 : sVar 10 (dropO ρ) = .ok (.val bv) (dropO ρ) := by simp only [sVar, q10]
  have v11 : sVar 11 (dropO ρ) = .ok (.val fv) (dropO ρ) := by simp only [sVar, q11]
  have v12 : sVar 12 (dropO ρ) = .ok (.val wv) (dropO ρ) := by simp only [sVar, q12]
  have v13 : sVar 13 (dropO ρ) = .ok (.val sv) (dropO ρ) := by simp only [sVar, q13]
  have l0 : leOk ⟨[sVar 3, sVar 11], rx_have, 0, sVar 3⟩ ρ = true := leOk_of ((rCall_ok (show argsD [sVar 3, sVar 11] (dropO ρ) = some [nv, fv] by simp only [argsD, evs, sVar, sC, q3, q4, q5, q8, q10, q11, q12, q13, Rs.bind_ok, datas, Option.map_some])).trans (bad_have hn)) (by decide) v3 sn
  have l1 : leOk ⟨[sVar 3, sVar 13], rx_agreed, 0, sVar 3⟩ ρ = true := leOk_of ((rCall_ok (show argsD [sVar 3, sVar 13] (dropO ρ) = some [nv, sv] by simp only [argsD, evs, sVar, sC, q3, q4, q5, q8, q10, q11, q12, q13, Rs.bind_ok, datas, Option.map_some])).trans (bad_agreed hn)) (by decide) v3 sn
  have l2 : leOk ⟨[sVar 3], rx_best_agreed, 0, sVar 3⟩ ρ = true := leOk_of ((rCall_ok (show argsD [sVar 3] (dropO ρ) = some [nv] by simp only [argsD, evs, sVar, sC, q3, q4, q5, q8, q10, q11, q12, q13, Rs.bind_ok, datas, Option.map_some])).trans (bad_best hn)) (by decide) v3 sn
  have l3 : leOk ⟨[sVar 3], rx_lots_right, 0, sVar 3⟩ ρ = true := leOk_of ((rCall_ok (show argsD [sVar 3] (dropO ρ) = some [nv] by simp only [argsD, evs, sVar, sC, q3, q4, q5, q8, q10, q11, q12, q13, Rs.bind_ok, datas, Option.map_some])).trans (bad_lots hn)) (by decide) v3 sn
  have l4 : leOk ⟨[sVar 3, sVar 12], rx_truth_spans, 0, sVar 3⟩ ρ = true := leOk_of ((rCall_ok (show argsD [sVar 3, sVar 12] (dropO ρ) = some [nv, wv] by simp only [argsD, evs, sVar, sC, q3, q4, q5, q8, q10, q11, q12, q13, Rs.bind_ok, datas, Option.map_some])).trans (w_truth (bad_check_wrong hn))) (by decide) v3 sn
  have l5 : leOk ⟨[sVar 3, sVar 12], rx_surely_right, 0, sVar 3⟩ ρ = true := leOk_of ((rCall_ok (show argsD [sVar 3, sVar 12] (dropO ρ) = some [nv, wv] by simp only [argsD, evs, sVar, sC, q3, q4, q5, q8, q10, q11, q12, q13, Rs.bind_ok, datas, Option.map_some])).trans (s_right (w_spans_if (bad_check_wrong hn)))) (by decide) v3 sn
  have l6 : leOk ⟨[sVar 3, sVar 12], rx_surely_wrong, 0, sVar 3⟩ ρ = true := leOk_of ((rCall_ok (show argsD [sVar 3, sVar 12] (dropO ρ) = some [nv, wv] by simp only [argsD, evs, sVar, sC, q3, q4, q5, q8, q10, q11, q12, q13, Rs.bind_ok, datas, Option.map_some])).trans (s_wrong (w_spans_if (bad_check_wrong hn)))) (by decide) v3 sn
  have l7 : leOk ⟨[sVar 3, sVar 12], rx_trimmed, 0, sVar 3⟩ ρ = true := leOk_of ((rCall_ok (show argsD [sVar 3, sVar 12] (dropO ρ) = some [nv, wv] by simp only [argsD, evs, sVar, sC, q3, q4, q5, q8, q10, q11, q12, q13, Rs.bind_ok, datas, Option.map_some])).trans (w_trimmed (bad_check_wrong hn))) (by decide) v3 sn
  have l8 : leOk ⟨[sVar 3, sVar 12], rx_hull, 0, sVar 3⟩ ρ = true := leOk_of ((rCall_ok (show argsD [sVar 3, sVar 12] (dropO ρ) = some [nv, wv] by simp only [argsD, evs, sVar, sC, q3, q4, q5, q8, q10, q11, q12, q13, Rs.bind_ok, datas, Option.map_some])).trans (s_hull (w_spans_if (bad_check_wrong hn)))) (by decide) v3 sn
  have l9 : leOk ⟨[sVar 3, sVar 12, sVar 10], rx_pulled, 0, sVar 3⟩ ρ = true := leOk_of ((rCall_ok (show argsD [sVar 3, sVar 12, sVar 10] (dropO ρ) = some [nv, wv, bv] by simp only [argsD, evs, sVar, sC, q3, q4, q5, q8, q10, q11, q12, q13, Rs.bind_ok, datas, Option.map_some])).trans (w_pulled (bad_check_wrong hn))) (by decide) v3 sn
  have l10 : leOk ⟨[sVar 3, sVar 4, sVar 10], rx_weighed, 0, sVar 3⟩ ρ = true := leOk_of ((rCall_ok (show argsD [sVar 3, sVar 4, sVar 10] (dropO ρ) = some [nv, gv, bv] by simp only [argsD, evs, sVar, sC, q3, q4, q5, q8, q10, q11, q12, q13, Rs.bind_ok, datas, Option.map_some])).trans (bad_weighed hn)) (by decide) v3 sn
  have l11 : leOk ⟨[sVar 8, sVar 11], rx_have, 1, sVar 11⟩ ρ = true := leOk_of ((rCall_ok (show argsD [sVar 8, sVar 11] (dropO ρ) = some [(srcs L), fv] by simp only [argsD, evs, sVar, sC, q3, q4, q5, q8, q10, q11, q12, q13, Rs.bind_ok, datas, Option.map_some])).trans (x_have g hfv)) (by decide) v11 sf
  have l12 : leOk ⟨[sVar 8, sVar 13], rx_agreed, 1, sVar 13⟩ ρ = true := leOk_of ((rCall_ok (show argsD [sVar 8, sVar 13] (dropO ρ) = some [(srcs L), sv] by simp only [argsD, evs, sVar, sC, q3, q4, q5, q8, q10, q11, q12, q13, Rs.bind_ok, datas, Option.map_some])).trans (x_agreed g hsv)) (by decide) v13 ss
  have l13 : leOk ⟨[sVar 8, sVar 12], rx_truth_spans, 1, sVar 12⟩ ρ = true := leOk_of ((rCall_ok (show argsD [sVar 8, sVar 12] (dropO ρ) = some [(srcs L), wv] by simp only [argsD, evs, sVar, sC, q3, q4, q5, q8, q10, q11, q12, q13, Rs.bind_ok, datas, Option.map_some])).trans (w_truth (x_check_wrong g hw))) (by decide) v12 sw
  have l14 : leOk ⟨[sVar 8, sVar 12], rx_surely_right, 1, sVar 12⟩ ρ = true := leOk_of ((rCall_ok (show argsD [sVar 8, sVar 12] (dropO ρ) = some [(srcs L), wv] by simp only [argsD, evs, sVar, sC, q3, q4, q5, q8, q10, q11, q12, q13, Rs.bind_ok, datas, Option.map_some])).trans (s_right (w_spans_if (x_check_wrong g hw)))) (by decide) v12 sw
  have l15 : leOk ⟨[sVar 8, sVar 12], rx_surely_wrong, 1, sVar 12⟩ ρ = true := leOk_of ((rCall_ok (show argsD [sVar 8, sVar 12] (dropO ρ) = some [(srcs L), wv] by simp only [argsD, evs, sVar, sC, q3, q4, q5, q8, q10, q11, q12, q13, Rs.bind_ok, datas, Option.map_some])).trans (s_wrong (w_spans_if (x_check_wrong g hw)))) (by decide) v12 sw
  have l16 : leOk ⟨[sVar 8, sVar 12], rx_trimmed, 1, sVar 12⟩ ρ = true := leOk_of ((rCall_ok (show argsD [sVar 8, sVar 12] (dropO ρ) = some [(srcs L), wv] by simp only [argsD, evs, sVar, sC, q3, q4, q5, q8, q10, q11, q12, q13, Rs.bind_ok, datas, Option.map_some])).trans (w_trimmed (x_check_wrong g hw))) (by decide) v12 sw
  have l17 : leOk ⟨[sVar 8, sVar 12], rx_hull, 1, sVar 12⟩ ρ = true := leOk_of ((rCall_ok (show argsD [sVar 8, sVar 12] (dropO ρ) = some [(srcs L), wv] by simp only [argsD, evs, sVar, sC, q3, q4, q5, q8, q10, q11, q12, q13, Rs.bind_ok, datas, Option.map_some])).trans (s_hull (w_spans_if (x_check_wrong g hw)))) (by decide) v12 sw
  have l18 : leOk ⟨[sVar 8, sVar 12, sVar 10], rx_pulled, 1, sVar 12⟩ ρ = true := leOk_of ((rCall_ok (show argsD [sVar 8, sVar 12, sVar 10] (dropO ρ) = some [(srcs L), wv, bv] by simp only [argsD, evs, sVar, sC, q3, q4, q5, q8, q10, q11, q12, q13, Rs.bind_ok, datas, Option.map_some])).trans (w_pulled (x_check_wrong g hw))) (by decide) v12 sw
  have l19 : leOk ⟨[sVar 8, sC (.int 0), sVar 10], rx_pulled, 1, sVar 10⟩ ρ = true := leOk_of ((rCall_ok (show argsD [sVar 8, sC (.int 0), sVar 10] (dropO ρ) = some [(srcs L), .int 0, bv] by simp only [argsD, evs, sVar, sC, q3, q4, q5, q8, q10, q11, q12, q13, Rs.bind_ok, datas, Option.map_some])).trans (x_pulled0 g hb1)) (by decide) v10 sb
  have l20 : leOk ⟨[sVar 8, sVar 4, sVar 10], rx_weighed, 2, sVar 4⟩ ρ = true := leOk_of ((rCall_ok (show argsD [sVar 8, sVar 4, sVar 10] (dropO ρ) = some [(srcs L), gv, bv] by simp only [argsD, evs, sVar, sC, q3, q4, q5, q8, q10, q11, q12, q13, Rs.bind_ok, datas, Option.map_some])).trans (gg_bad g hg)) (by decide) v4 sg
  have l21 : leOk ⟨[sVar 8, sVar 5, sVar 10], rx_weighed, 1, sVar 10⟩ ρ = true := leOk_of ((rCall_ok (show argsD [sVar 8, sVar 5, sVar 10] (dropO ρ) = some [(srcs L), (.tup (List.replicate L.length (.int 1))), bv] by simp only [argsD, evs, sVar, sC, q3, q4, q5, q8, q10, q11, q12, q13, Rs.bind_ok, datas, Option.map_some])).trans (x_w_en g (by rw [List.length_replicate]) (all_rep h0 rfl) hb2)) (by decide) v10 sb
  have l22 : leOk ⟨[sVar 8, sVar 5, sC (.int 0)], rx_weighed, 1, sC (.int 0)⟩ ρ = true := leOk_of ((rCall_ok (show argsD [sVar 8, sVar 5, sC (.int 0)] (dropO ρ) = some [(srcs L), (.tup (List.replicate L.length (.int 1))), .int 0] by simp only [argsD, evs, sVar, sC, q3, q4, q5, q8, q10, q11, q12, q13, Rs.bind_ok, datas, Option.map_some])).trans (x_w_en g (by rw [List.length_replicate]) (all_rep h0 rfl) (by decide))) (by decide) rfl (sm_int _ (by decide))
  have l23 : leOk ⟨[sVar 8, sVar 5, sC (.int 1981)], rx_weighed, 1, sC (.int 1981)⟩ ρ = true := leOk_of ((rCall_ok (show argsD [sVar 8, sVar 5, sC (.int 1981)] (dropO ρ) = some [(srcs L), (.tup (List.replicate L.length (.int 1))), .int 1981] by simp only [argsD, evs, sVar, sC, q3, q4, q5, q8, q10, q11, q12, q13, Rs.bind_ok, datas, Option.map_some])).trans (x_w_en g (by rw [List.length_replicate]) (all_rep h0 rfl) (by decide))) (by decide) rfl (sm_int _ (by decide))
  have l24 : leOk ⟨[sTup [sTup [sC (.int 0), sC (.int 1)], sTup [sC (.int 5), sC (.int 6)]], sC (.int 0)], rx_hull, 3, sC (.int 1)⟩ ρ = true := leOk_of ((rCall_ok (c24 (dropO ρ))).trans (s_hull more2)) (by decide) rfl (sm_int _ (by decide))
  have l25 : leOk ⟨[sTup [sTup [sC (.int 0), sC (.int 1)], sTup [sC (.int 5), sC (.int 6)], sTup [sC (.int 9), sC (.int 9)]], sC (.int 1)], rx_surely_wrong, 3, sC (.int 2)⟩ ρ = true := leOk_of ((rCall_ok (c25 (dropO ρ))).trans (s_wrong more3)) (by decide) rfl (sm_int _ (by decide))
  simp only [looksE, List.all_cons, List.all_nil, l0, l1, l2, l3, l4, l5, l6, l7, l8, l9, l10, l11, l12, l13, l14, l15, l16, l17, l18, l19, l20, l21, l22, l23, l24, l25, Bool.and_self]
end Sa

namespace Sa
open PySem L2 Xc
/-! ## one source alone -/
section
variable {p : Int × Int}
theorem good1 (h : p.1 ≤ p.2) : Good [p] := ⟨by simp, fun q hq => by rw [List.mem_singleton.mp hq]; exact h⟩
theorem edges1 (h : p.1 ≤ p.2) : edges [p] = [p.1, p.2 + 1] := by
  obtain ⟨e, E, he, pw, _, e0, e1⟩ := edges_ex (good1 h)
  have hl := edges_len [p]
  have lo1 : lo [p] = p.1 := rfl
  have hi1 : hi [p] = p.2 := rfl
  rw [lo1] at e0
  rw [hi1] at e1
  rw [he] at hl ⊢
  match E, hl with
  | [], _ =>
    have : e = p.2 + 1 := e1
    omega
  | [x], _ =>
    have : x = p.2 + 1 := e1
    rw [e0, this]
  | _ :: _ :: _, hl => simp at hl
theorem hav1 (h : p.1 ≤ p.2) : hav [p] p.1 = [0] := by
  unfold hav hasB
  simp [h]
theorem rows1 (h : p.1 ≤ p.2) : rowsP [p] = [(p.1, p.2, [0])] := by
  unfold rowsP
  rw [edges1 h]
  simp only [List.tail_cons, List.zip_cons_cons, List.zip_nil_right, List.map_cons, List.map_nil, hav1 h]
  congr 3
  omega
theorem most1 (h : p.1 ≤ p.2) : most [p] = 1 := by
  rw [← most_rows (good1 h), rows1 h]
  rfl
theorem agP1 (h : p.1 ≤ p.2) : agP [p] 1 = [p] := by
  unfold agP
  rw [rows1 h]
  rfl
theorem can1 (h : p.1 ≤ p.2) : spans (canN [p] 0) = [p] := by
  have := agP_eq (good1 h) (m := 1) (by decide)
  rw [agP1 h] at this
  exact this.symm
theorem can1_ends (h : p.1 ≤ p.2) : ∃ a l, ∃ q : canN [p] 0 = a :: l, a = p.1 ∧ (a :: l).getLast (by simp) = p.2 := by
  cases q : canN [p] 0 with
  | nil =>
    have := can1 h
    rw [q] at this
    cases this
  | cons a l =>
    obtain ⟨x, y, h1, h2, h3, h4⟩ := spans_ends (a := a) (l := l)
    have c := can1 h
    rw [q] at c
    rw [c] at h1 h3
    cases h1
    cases h3
    exact ⟨a, l, rfl, h2.symm, h4.symm⟩
end
section
variable {p : Int × Int} (g : Okay [p])
include g
omit g in
theorem one0 : (0 : Int) < (([p] : Src).length : Int) := by show (0 : Int) < 1; decide
theorem le1 : p.1 ≤ p.2 := g.le p List.mem_cons_self
theorem e1_best : fn_best_agreed [vl (srcs [p])] = .ok (.val (.tup [.int 1, srcs [p]])) [vl (srcs [p])] := by
  have := e_best [p] g
  rw [most1 (le1 g), agP1 (le1 g)] at this
  exact this
theorem e1_truth : fn_truth_spans [vl (srcs [p]), vl (.int 0)] = .ok (.val (.tup [.str "spans", srcs [p]])) [vl (srcs [p]), vl (.int 0)] := by
  have := e_truth [p] g 0 (by decide) one0
  have c : couldD [p] 0 = .tup [.str "spans", srcs [p]] := by
    unfold couldD
    rw [most1 (le1 g)]
    simp only [List.length_cons, List.length_nil]
    rw [if_neg (by decide)]
    have : ((0 + 1 : Nat) : Int) - 0 = 1 := by decide
    rw [this, agP1 (le1 g)]
  rw [c] at this
  exact this
theorem e1_hull : fn_hull [vl (srcs [p]), vl (.int 0)] = .ok (.val (srcD p)) [vl (srcs [p]), vl (.int 0)] := by
  obtain ⟨a, l, q, h1, h2⟩ := can1_ends (le1 g)
  have := e_hull2 [p] g 0 (by decide) one0 q
  rw [h2, h1] at this
  exact this
theorem e1_trimmed : fn_trimmed [vl (srcs [p]), vl (.int 0)] = .ok (.val (srcD p)) [vl (srcs [p]), vl (.int 0)] := by
  have := e_trimmed [p] g 0 (by decide) one0
  have h1 : tlo [p] (0 : Int).toNat = p.1 := by simp [tlo, lows, sortI]
  have h2 : thi [p] (0 : Int).toNat = p.2 := by simp [thi, highs, sortI]
  rw [h1, h2] at this
  exact this
theorem e1_right : fn_surely_right [vl (srcs [p]), vl (.int 0)] = .ok (.val (.tup [.int 0])) [vl (srcs [p]), vl (.int 0)] := by
  obtain ⟨a, l, q, h1, h2⟩ := can1_ends (le1 g)
  have := e_surely_right [p] g 0 (by decide) one0 q
  rw [h2, h1] at this
  have c : rightL' [p] p.1 p.2 = [0] := by simp [rightL']
  rw [c] at this
  exact this
theorem e1_wrong : fn_surely_wrong [vl (srcs [p]), vl (.int 0)] = .ok (.val (.tup [])) [vl (srcs [p]), vl (.int 0)] := by
  have hle := le1 g
  obtain ⟨a, l, q, h1, h2⟩ := can1_ends hle
  have := e_surely_wrong [p] g 0 (by decide) one0 (by rw [q]; simp) (by rw [can1 hle]; show 1 ≤ 100000; decide)
  rw [can1 hle] at this
  have c : wrongL [p] [p] = [] := by simp [wrongL, meetB, hle]
  rw [c] at this
  exact this
theorem e1_pulled : fn_pulled [vl (srcs [p]), vl (.int 0), vl (.int 0)] = .ok (.val (.tup [.int (-99999), .int 99999])) [vl (srcs [p]), vl (.int 0), vl (.int 0)] := by
  have := e_pulled [p] g 0 0 (by decide) one0 (by decide) one0
  have c : pulR [p] 0 0 = .tup [.int (-99999), .int 99999] := if_pos (show (1 : Int) - 0 - 1 < 1 by decide)
  rw [c] at this
  exact this
theorem e1_have : fn_have [vl (srcs [p]), vl (.int 199998)] = .ok (.val (.tup [])) [vl (srcs [p]), vl (.int 199998)] := by
  have := e_have [p] g 199998 (by decide) (by decide)
  have hb := (g.bd p List.mem_cons_self).2
  have c : hav [p] 199998 = [] := by
    have h1 : p.2 < 199998 := by omega
    unfold hav hasB
    simp
    intro _
    exact h1
  rw [c] at this
  exact this
end
theorem e0_weighed {L : Src} (g : Okay L) : fn_weighed [vl (srcs L), vl (.tup (List.replicate L.length (.int 0))), vl (.int 1)] = .ok (.val (.tup [])) [vl (srcs L), vl (.tup (List.replicate L.length (.int 0))), vl (.int 1)] := by
  have := e_weighed L g (List.replicate L.length 0) 1 (by simp) (fun x hx => by rw [(List.mem_replicate.mp hx).2]; decide) (by decide) (by decide)
  have z : ∀ l : List Int, wsum (List.replicate L.length 0) l = 0 := fun l => by
    unfold wsum
    have : (l.map fun i => (List.replicate L.length (0 : Int)).getD i.toNat 0) = l.map fun _ => 0 := by
      apply List.map_congr_left
      intro i _
      rw [List.getD_eq_getElem?_getD, List.getElem?_replicate]
      split <;> rfl
    rw [this]
    clear this
    induction l with
    | nil => rfl
    | cons a l ih => rw [List.map_cons, List.sum_cons, ih]; rfl
  have c : wgP L (List.replicate L.length 0) 1 = [] := by
    unfold wgP
    have : ((rowsP L).filter fun r => decide (1 ≤ wsum (List.replicate L.length 0) r.2.2)) = [] := by
      rw [List.filter_eq_nil_iff]
      intro r _
      rw [z]
      decide
    rw [this]
    rfl
  rw [c, List.map_replicate] at this
  exact this
end Sa

namespace Sa
open PySem L2 Xc
/-! ## the law's own defs at their values -/
abbrev R1 : SS := sAsgT (gT [gN 8, gN 9]) (sCall fn__law_sources [sVar 0, sC (.int 7), sC (.int 15)])
abbrev R2 : SS := sAsg 1 (sNat nLen [sVar 8])
abbrev R3 : SS := sAsg 2 (sLst [sC (.non), sTup [], sNat nList [sVar 8], sTup [sTup [sC (.int 2), sC (.int 1)]], sTup [sTup [sC (.int 0), sC (.int 100000)]], sTup [sTup [sC (.int 0), sC (.bl true)]], sTup [sTup [sC (.int 0)]], sTup [sC (.int 0), sC (.int 1)], sNat nRep [sTup [sTup [sC (.int 0), sC (.int 1)]], sC (.int 21)]])
abbrev R4 : SS := sAsg 3 (sCall fn__law_of [sVar 0, sVar 2])
abbrev R5 : SS := sAsgT (gT [gN 10, gN 11]) (sTup [sCall fn__law_of [sVar 0, sLst [sC (.non), sNat nNeg [sC (.int 1)], sC (.bl true), sC (.str "1"), sTup [sC (.int 1)]]], sCall fn__law_of [sVar 0, sLst [sC (.non), sC (.int 199999), sNat nNeg [sC (.int 199999)], sC (.bl true), sC (.str "1")]]])
abbrev R6 : SS := sAsgT (gT [gN 12, gN 13]) (sTup [sCall fn__law_of [sVar 0, sLst [sC (.non), sVar 1, sNat nNeg [sC (.int 1)], sC (.bl true), sC (.str "1")]], sCall fn__law_of [sVar 0, sLst [sC (.non), sC (.int 0), sNat nAdd [sVar 1, sC (.int 1)], sC (.bl true), sC (.str "1")]]])
abbrev R7 : SS := sAsg 4 (sCall fn__law_of [sVar 0, sLst [sC (.non), sNat nRep [sTup [sC (.int 1)], sNat nAdd [sVar 1, sC (.int 1)]], sRepL (sLst [sC (.int 1)]) (sVar 1), sNat nRep [sTup [sC (.bl true)], sVar 1], sNat nRep [sTup [sC (.int 100)], sVar 1], sNat nRep [sTup [sNat nNeg [sC (.int 1)]], sVar 1]]])
abbrev R8 : SS := sAsg 5 (sNat nRep [sTup [sC (.int 1)], sVar 1])
abbrev R9 : SS := sLooks looksE 6
abbrev R10 : SS := sAsg 7 (sSlc (sVar 8) none (some (sC (.int 1))))
abbrev R11 : SS := sIfS (sOr (sNat nNeS [sCall fn_best_agreed [sVar 7], sTup [sC (.int 1), sVar 7]]) (sOr (sNat nNeS [sCall fn_truth_spans [sVar 7, sC (.int 0)], sTup [sC (.str "spans"), sVar 7]]) (sNat nNeS [sCall fn_hull [sVar 7, sC (.int 0)], sNat nIdx [sVar 7, sC (.int 0)]]))) (sCons (sRet (sC (.bl false))) (sNil)) (sNil)
abbrev R12 : SS := sIfS (sOr (sNat nNeS [sCall fn_trimmed [sVar 7, sC (.int 0)], sNat nIdx [sVar 7, sC (.int 0)]]) (sOr (sNat nNeS [sCall fn_surely_right [sVar 7, sC (.int 0)], sTup [sC (.int 0)]]) (sNat nNeS [sCall fn_surely_wrong [sVar 7, sC (.int 0)], sTup []]))) (sCons (sRet (sC (.bl false))) (sNil)) (sNil)
abbrev R13 : SS := sIfS (sOr (sNat nNeS [sCall fn_pulled [sVar 7, sC (.int 0), sC (.int 0)], sTup [sNat nNeg [sC (.int 99999)], sC (.int 99999)]]) (sNat nNeS [sCall fn_weighed [sVar 8, sNat nRep [sTup [sC (.int 0)], sVar 1], sC (.int 1)], sTup []])) (sCons (sRet (sC (.bl false))) (sNil)) (sNil)
abbrev R14 : SS := sRet (sNat nEqS [sCall fn_have [sVar 7, sC (.int 199998)], sTup []])
theorem st_ok {i : Nat} {s x : Sl} {ρ : Rho} (h : ρ[i]? = some s) (hp : s.pinned = false) : stSl i x ρ = some (ρ.set i x) := by
  simp only [stSl, h, hp]
  rfl
theorem src_call {pot : List D} {n most far : Int} {tl : List Sl} (h : PotOk n pot) (hn : n ≤ 900000) (hm0 : 1 ≤ most) (hm1 : most ≤ 20) (hf0 : 0 ≤ far) (hf1 : far ≤ 90000) :
    ∃ (L : Src) (truth : Int) (pot' : List D), sCall fn__law_sources [sVar 0, sC (.int most), sC (.int far)] (.own (.lst pot) true :: tl) = .ok (.val (.tup [srcs L, .int truth])) (.own (.lst pot') true :: tl) ∧
      PotOk (n + 200) pot' ∧ L ≠ [] ∧ (L.length : Int) ≤ most ∧ (∀ p ∈ L, Src1 far p) ∧ -far ≤ truth ∧ truth ≤ far := by
  obtain ⟨L, truth, pot', e, h1, h2, h3, h4, h5, h6⟩ := e_sources h hn hm0 hm1 hf0 hf1
  exact ⟨L, truth, pot', call_v e (ev_cons (r := .own 0) rfl (ev_cons rfl (ev_one rfl))) rfl rfl rfl rfl, h1, h2, h3, h4, h5, h6⟩
theorem e_of {pot ds : List D} {n : Int} (h : PotOk n pot) (hn : n ≤ 1000000) (h0 : 0 < ds.length) (h1 : ds.length ≤ 1000) :
    ∃ (d : D) (pot' : List D), d ∈ ds ∧ fn__law_of [.own (.lst pot) false, .own (.lst ds) false] = .ok (.val d) [.own (.lst pot') false, .own (.lst ds) false] ∧ PotOk (n + 1) pot' := by
  obtain ⟨r, pot', e, r0, r1, hp⟩ := take_at (tl := [.own (.lst ds) true]) (f := sNat nLen [sVar 1]) (u := (ds.length : Int)) h hn (by omega) (by omega) (nat_ok (ds := [.lst ds]) (ev_one (r := .own 1) rfl) rfl rfl rfl)
  have hk : r.toNat < ds.length := by omega
  have hx : nIdx [.lst ds, .int r] = some (.val ds[r.toNat]) := by
    have hi : ixN ds.length r = some r.toNat := by
      unfold ixN
      rw [if_pos r0, if_pos r1]
    simp only [nIdx, atI, hi, Option.bind_some, List.getElem?_eq_getElem hk, Option.map_some]
  have hb : body__law_of [.own (.lst pot) true, .own (.lst ds) true] = .ret (.val ds[r.toNat]) [.own (.lst pot') true, .own (.lst ds) true] :=
    cons_ret (ret_ok (nat_ok (ds := [.lst ds, .int r]) (ev_two (r := .own 1) rfl e) rfl hx rfl))
  exact ⟨ds[r.toNat], pot', List.getElem_mem hk, run_r hb rfl rfl rfl rfl rfl, hp⟩
theorem of_new {pot ds : List D} {n : Int} {fs : List SE} {rs : List R} {tl : List Sl} (h : PotOk n pot) (hn : n ≤ 1000000) (h0 : 0 < ds.length) (h1 : ds.length ≤ 1000) (he : evs fs (.own (.lst pot) true :: tl) = .ok rs (.own (.lst pot) true :: tl)) (hf : frzs rs (.own (.lst pot) true :: tl) = some (ds, .own (.lst pot) true :: tl)) :
    ∃ (d : D) (pot' : List D), d ∈ ds ∧ sCall fn__law_of [sVar 0, sLst fs] (.own (.lst pot) true :: tl) = .ok (.val d) (.own (.lst pot') true :: tl) ∧ PotOk (n + 1) pot' := by
  obtain ⟨d, pot', hd, e, hp⟩ := e_of h hn h0 h1
  exact ⟨d, pot', hd, call_v e (ev_two (r := .own 0) rfl (lst_ok he hf)) rfl rfl rfl rfl, hp⟩
theorem of_slot {pot ds : List D} {n : Int} {s1 : Sl} {tl : List Sl} (h : PotOk n pot) (hn : n ≤ 1000000) (h0 : 0 < ds.length) (h1 : ds.length ≤ 1000) :
    ∃ (d : D) (pot' : List D), d ∈ ds ∧ sCall fn__law_of [sVar 0, sVar 2] (.own (.lst pot) true :: s1 :: .own (.lst ds) false :: tl) = .ok (.val d) (.own (.lst pot') true :: s1 :: .own (.lst ds) false :: tl) ∧ PotOk (n + 1) pot' := by
  obtain ⟨d, pot', hd, e, hp⟩ := e_of h hn h0 h1
  exact ⟨d, pot', hd, call_v e (ev_two (r := .own 0) (q := .own 2) rfl rfl) rfl rfl rfl rfl, hp⟩
abbrev RS (pot : List D) (s1 s2 s3 s4 s5 s7 s8 s9 s10 s11 s12 s13 : Sl) : Rho := [.own (.lst pot) true, s1, s2, s3, s4, s5, .non, s7, s8, s9, s10, s11, s12, s13, .non, .non, .non]
theorem rep_flat (m : Nat) (d : D) : (List.replicate m [d]).flatten = List.replicate m d := by
  induction m with
  | zero => rfl
  | succ m ih => rw [List.replicate_succ, List.flatten_cons, ih, List.replicate_succ]; rfl
theorem rep_ok {m : Nat} (h0 : 1 ≤ m) (h1 : m ≤ 1000) (d : D) : nRep [.tup [d], .int m] = some (.val (.tup (List.replicate m d))) := by
  have z : (decide ((1 : Int) ≤ m) && decide ((m : Int) ≤ 1000) && !([d] : List D).isEmpty && decide (([d] : List D).length ≤ 1000)) = true := by
    rw [decide_eq_true (by omega), decide_eq_true (by omega)]
    rfl
  simp only [nRep, guard', z, if_true]
  rw [show (m : Int).toNat = m by omega, rep_flat]
section
variable {pot : List D} {n : Int} {s1 s2 s3 s4 s5 s7 s8 s9 s10 s11 s12 s13 : Sl} {L : Src} {m : Nat}
theorem r3 : R3 (RS pot s1 .non s3 s4 s5 s7 (vl (srcs L)) s9 s10 s11 s12 s13) = .nx (RS pot s1 (.own (.lst (NN L)) false) s3 s4 s5 s7 (vl (srcs L)) s9 s10 s11 s12 s13) := by
  let ρ0 : Rho := RS pot s1 .non s3 s4 s5 s7 (vl (srcs L)) s9 s10 s11 s12 s13
  have h21 := rep_ok (m := 21) (by decide) (by decide) (.tup [.int 0, .int 1])
  have he : evs [sC (.non), sTup [], sNat nList [sVar 8], sTup [sTup [sC (.int 2), sC (.int 1)]], sTup [sTup [sC (.int 0), sC (.int 100000)]], sTup [sTup [sC (.int 0), sC (.bl true)]], sTup [sTup [sC (.int 0)]], sTup [sC (.int 0), sC (.int 1)], sNat nRep [sTup [sTup [sC (.int 0), sC (.int 1)]], sC (.int 21)]] ρ0 = .ok [.val .non, .val (.tup []), .new (.lst (L.map srcD)), .val (.tup [.tup [.int 2, .int 1]]), .val (.tup [.tup [.int 0, .int 100000]]), .val (.tup [.tup [.int 0, .bl true]]), .val (.tup [.tup [.int 0]]), .val (.tup [.int 0, .int 1]), .val (.tup (List.replicate 21 (.tup [.int 0, .int 1])))] ρ0 := by
    refine ev_cons rfl (ev_cons rfl (ev_cons (nat_ok (n := nList) (ev_one rfl) rfl (o := .new (.lst (L.map srcD))) rfl rfl) (ev_cons rfl (ev_cons rfl (ev_cons rfl (ev_cons rfl (ev_two rfl ?_)))))))
    exact nat_ok (ds := [.tup [.tup [.int 0, .int 1]], .int 21]) (ev_two rfl rfl) rfl h21 rfl
  have hl : sLst [sC (.non), sTup [], sNat nList [sVar 8], sTup [sTup [sC (.int 2), sC (.int 1)]], sTup [sTup [sC (.int 0), sC (.int 100000)]], sTup [sTup [sC (.int 0), sC (.bl true)]], sTup [sTup [sC (.int 0)]], sTup [sC (.int 0), sC (.int 1)], sNat nRep [sTup [sTup [sC (.int 0), sC (.int 1)]], sC (.int 21)]] ρ0 = .ok (.new (.lst (NN L))) ρ0 := lst_ok he rfl
  exact asg_ok (i := 2) hl rfl (st_ok rfl rfl)
theorem r4 (h : PotOk n pot) (hn : n ≤ 1000000) (hp : s3.pinned = false) : ∃ (d : D) (pot' : List D), d ∈ NN L ∧ R4 (RS pot s1 (.own (.lst (NN L)) false) s3 s4 s5 s7 s8 s9 s10 s11 s12 s13) = .nx (RS pot' s1 (.own (.lst (NN L)) false) (vl d) s4 s5 s7 s8 s9 s10 s11 s12 s13) ∧ PotOk (n + 1) pot' := by
  obtain ⟨d, pot', hd, e, hp'⟩ := of_slot (s1 := s1) (tl := [s3, s4, s5, .non, s7, s8, s9, s10, s11, s12, s13, .non, .non, .non]) h hn (ds := NN L) (by simp [NN]) (by simp [NN])
  exact ⟨d, pot', hd, asg_ok (i := 3) e rfl (st_ok rfl hp), hp'⟩
theorem r5 (h : PotOk n pot) (hn : n ≤ 999000) (hp0 : s10.pinned = false) (hp1 : s11.pinned = false) : ∃ (a b : D) (pot' : List D), a ∈ BB ∧ b ∈ FF ∧ R5 (RS pot s1 s2 s3 s4 s5 s7 s8 s9 s10 s11 s12 s13) = .nx (RS pot' s1 s2 s3 s4 s5 s7 s8 s9 (vl a) (vl b) s12 s13) ∧ PotOk (n + 2) pot' := by
  obtain ⟨a, pot1, ha, e1, h1⟩ := of_new (tl := [s1, s2, s3, s4, s5, .non, s7, s8, s9, s10, s11, s12, s13, .non, .non, .non]) (ds := BB) h (by omega) (by decide) (by decide) (fs := [sC (.non), sNat nNeg [sC (.int 1)], sC (.bl true), sC (.str "1"), sTup [sC (.int 1)]]) (rs := [.val .non, .val (.int (-1)), .val (.bl true), .val (.str "1"), .val (.tup [.int 1])]) rfl rfl
  obtain ⟨b, pot2, hb, e2, h2⟩ := of_new (tl := [s1, s2, s3, s4, s5, .non, s7, s8, s9, s10, s11, s12, s13, .non, .non, .non]) (ds := FF) h1 (by omega) (by decide) (by decide) (fs := [sC (.non), sC (.int 199999), sNat nNeg [sC (.int 199999)], sC (.bl true), sC (.str "1")]) (rs := [.val .non, .val (.int 199999), .val (.int (-199999)), .val (.bl true), .val (.str "1")]) rfl rfl
  exact ⟨a, b, pot2, ha, hb, asgT_ok (tup_ok (ev_two e1 e2) rfl) rfl (two_g (gN_ok rfl hp0) (gN_ok rfl hp1)), h2.mono (by omega)⟩
theorem r6 (h : PotOk n pot) (hn : n ≤ 999000) (hp0 : s12.pinned = false) (hp1 : s13.pinned = false) : ∃ (a b : D) (pot' : List D), a ∈ WWo m ∧ b ∈ SSo m ∧ R6 (RS pot (vl (.int (m : Int))) s2 s3 s4 s5 s7 s8 s9 s10 s11 s12 s13) = .nx (RS pot' (vl (.int (m : Int))) s2 s3 s4 s5 s7 s8 s9 s10 s11 (vl a) (vl b)) ∧ PotOk (n + 2) pot' := by
  obtain ⟨a, pot1, ha, e1, h1⟩ := of_new (tl := [vl (.int (m : Int)), s2, s3, s4, s5, .non, s7, s8, s9, s10, s11, s12, s13, .non, .non, .non]) (ds := WWo m) h (by omega) (by show 0 < 5; decide) (by show 5 ≤ 1000; decide) (fs := [sC (.non), sVar 1, sNat nNeg [sC (.int 1)], sC (.bl true), sC (.str "1")]) (rs := [.val .non, .val (.int m), .val (.int (-1)), .val (.bl true), .val (.str "1")]) rfl rfl
  obtain ⟨b, pot2, hb, e2, h2⟩ := of_new (tl := [vl (.int (m : Int)), s2, s3, s4, s5, .non, s7, s8, s9, s10, s11, s12, s13, .non, .non, .non]) (ds := SSo m) h1 (by omega) (by show 0 < 5; decide) (by show 5 ≤ 1000; decide) (fs := [sC (.non), sC (.int 0), sNat nAdd [sVar 1, sC (.int 1)], sC (.bl true), sC (.str "1")]) (rs := [.val .non, .val (.int 0), .val (.int ((m : Int) + 1)), .val (.bl true), .val (.str "1")]) rfl rfl
  exact ⟨a, b, pot2, ha, hb, asgT_ok (tup_ok (ev_two e1 e2) rfl) rfl (two_g (gN_ok rfl hp0) (gN_ok rfl hp1)), h2.mono (by omega)⟩
theorem repL_ok {ρ : Rho} {p : Bool} (h : ρ[1]? = some (.val (.int (m : Int)) p)) (hm : m ≤ 100) : sRepL (sLst [sC (.int 1)]) (sVar 1) ρ = .ok (.new (.lst (List.replicate m (.int 1)))) ρ := by
  have e : evs [sLst [sC (.int 1)], sVar 1] ρ = .ok [.new (.lst [.int 1]), .val (.int (m : Int))] ρ := ev_two rfl (by simp only [sVar, h])
  have z : (0 : Int) ≤ m ∧ (m : Int) ≤ 100 ∧ ([D.int 1] : List D).length ≤ 1000 := ⟨by omega, by omega, by show 1 ≤ 1000; decide⟩
  simp only [sRepL, e, Rs.bind_ok, if_pos z]
  rw [show (m : Int).toNat = m by omega, rep_flat]
theorem reps {ρ : Rho} {p : Bool} {f : SE} {d : D} (h : ρ[1]? = some (.val (.int (m : Int)) p)) (h0 : 1 ≤ m) (hm : m ≤ 100) (hf : f ρ = .ok (.val d) ρ) : sNat nRep [sTup [f], sVar 1] ρ = .ok (.val (.tup (List.replicate m d))) ρ :=
  have hv : sVar 1 ρ = .ok (.val (.int (m : Int))) ρ := by simp only [sVar, h]
  nat_ok (ds := [.tup [d], .int m]) (ev_two (tup_ok (ev_one hf) rfl) hv) rfl (rep_ok h0 (by omega) d) rfl
theorem r7 (h : PotOk n pot) (hn : n ≤ 999000) (h0 : 1 ≤ m) (hm : m ≤ 100) (hp : s4.pinned = false) : ∃ (d : D) (pot' : List D), d ∈ GG m ∧ R7 (RS pot (vl (.int (m : Int))) s2 s3 s4 s5 s7 s8 s9 s10 s11 s12 s13) = .nx (RS pot' (vl (.int (m : Int))) s2 s3 (vl d) s5 s7 s8 s9 s10 s11 s12 s13) ∧ PotOk (n + 1) pot' := by
  let ρ0 : Rho := RS pot (vl (.int (m : Int))) s2 s3 s4 s5 s7 s8 s9 s10 s11 s12 s13
  have e1 : sNat nRep [sTup [sC (.int 1)], sNat nAdd [sVar 1, sC (.int 1)]] ρ0 = .ok (.val (.tup (List.replicate (m + 1) (.int 1)))) ρ0 :=
    nat_ok (ds := [.tup [.int 1], .int ((m + 1 : Nat) : Int)]) (ev_two (tup_ok (ev_one rfl) rfl) (nat_ok (ev_two rfl rfl) rfl (o := .val (.int ((m + 1 : Nat) : Int))) (by show some (NO.val (.int ((m : Int) + 1))) = _; push_cast; rfl) rfl)) rfl (rep_ok (by omega) (by omega) _) rfl
  have q : ρ0[1]? = some (.val (.int (m : Int)) false) := rfl
  obtain ⟨d, pot', hd, e, hp'⟩ := of_new (tl := ρ0.tail) (ds := GG m) h (by omega) (by show 0 < 6; decide) (by show 6 ≤ 1000; decide)
    (fs := [sC (.non), sNat nRep [sTup [sC (.int 1)], sNat nAdd [sVar 1, sC (.int 1)]], sRepL (sLst [sC (.int 1)]) (sVar 1), sNat nRep [sTup [sC (.bl true)], sVar 1], sNat nRep [sTup [sC (.int 100)], sVar 1], sNat nRep [sTup [sNat nNeg [sC (.int 1)]], sVar 1]])
    (rs := [.val .non, .val (.tup (List.replicate (m + 1) (.int 1))), .new (.lst (List.replicate m (.int 1))), .val (.tup (List.replicate m (.bl true))), .val (.tup (List.replicate m (.int 100))), .val (.tup (List.replicate m (.int (-1))))])
    (ev_cons rfl (ev_cons e1 (ev_cons (repL_ok q hm) (ev_cons (reps q h0 hm rfl) (ev_two (reps q h0 hm rfl) (reps q h0 hm rfl)))))) rfl
  exact ⟨d, pot', hd, asg_ok (i := 4) e rfl (st_ok rfl hp), hp'⟩
theorem r8 (h0 : 1 ≤ m) (hm : m ≤ 100) (hp : s5.pinned = false) : R8 (RS pot (vl (.int (m : Int))) s2 s3 s4 s5 s7 s8 s9 s10 s11 s12 s13) = .nx (RS pot (vl (.int (m : Int))) s2 s3 s4 (vl (.tup (List.replicate m (.int 1)))) s7 s8 s9 s10 s11 s12 s13) :=
  asg_ok (i := 5) (reps (p := false) rfl h0 hm rfl) rfl (st_ok rfl hp)
theorem r9 {ρ : Rho} (h6 : ρ[6]? = some .non) (h : looksE.all (fun e => leOk e ρ) = true) : R9 ρ = .nx ρ := by
  simp only [R9, sLooks, h6, h, if_true]
theorem r10 {p : Int × Int} (hp : s7.pinned = false) : R10 (RS pot s1 s2 s3 s4 s5 s7 (vl (srcs (p :: L))) s9 s10 s11 s12 s13) = .nx (RS pot s1 s2 s3 s4 s5 (vl (srcs [p])) (vl (srcs (p :: L))) s9 s10 s11 s12 s13) := by
  have c : sSlc (sVar 8) none (some (sC (.int 1))) (RS pot s1 s2 s3 s4 s5 s7 (vl (srcs (p :: L))) s9 s10 s11 s12 s13) = .ok (.val (srcs [p])) (RS pot s1 s2 s3 s4 s5 s7 (vl (srcs (p :: L))) s9 s10 s11 s12 s13) := by
    have k : cutD ((p :: L).map srcD) none (some 1) = [srcD p] := by
      unfold cutD HT.sIx
      simp
    have k2 : nSlc (srcs (p :: L)) none (some 1) = some (.val (srcs [p])) := by
      show some (NO.val (.tup (cutD ((p :: L).map srcD) none (some 1)))) = _
      rw [k]
      rfl
    have e0 : sVar 8 (RS pot s1 s2 s3 s4 s5 s7 (vl (srcs (p :: L))) s9 s10 s11 s12 s13) = .ok (.val (srcs (p :: L))) (RS pot s1 s2 s3 s4 s5 s7 (vl (srcs (p :: L))) s9 s10 s11 s12 s13) := rfl
    simp only [sSlc, e0, Rs.bind_ok, oInt, sC, view, Rs.opt_some, k2, NO.r]
  exact asg_ok (i := 7) c rfl (st_ok rfl hp)
end
end Sa

namespace Sa
open PySem L2 Xc
theorem neq {f g : SE} {ρ : Rho} {d : D} (hf : f ρ = .ok (.val d) ρ) (hg : g ρ = .ok (.val d) ρ) (hx : d.tx = true) (hd : d.py.depth ≤ 64) : sNat nNeS [f, g] ρ = .ok (.val (.bl false)) ρ := nat_ok (ev_two hf hg) rfl (neS_self hx hd) rfl
section
variable {pot : List D} {s1 s2 s3 s4 s5 s7 s9 s10 s11 s12 s13 : Sl} {L : Src} {p : Int × Int}
theorem r11 (g : Okay [p]) : R11 (RS pot s1 s2 s3 s4 s5 (vl (srcs [p])) (vl (srcs (p :: L))) s9 s10 s11 s12 s13) = .nx (RS pot s1 s2 s3 s4 s5 (vl (srcs [p])) (vl (srcs (p :: L))) s9 s10 s11 s12 s13) := by
  have a1 := neq (f := sCall fn_best_agreed [sVar 7]) (g := sTup [sC (.int 1), sVar 7]) (ρ := RS pot s1 s2 s3 s4 s5 (vl (srcs [p])) (vl (srcs (p :: L))) s9 s10 s11 s12 s13) (call_v (e1_best g) (ev_one rfl) rfl rfl rfl rfl) (tup_ok (ev_two rfl rfl) rfl) rfl (by simp [D.py, D.pys, PyData.depth, PyData.depthAll, srcs, srcD])
  have a2 := neq (f := sCall fn_truth_spans [sVar 7, sC (.int 0)]) (g := sTup [sC (.str "spans"), sVar 7]) (ρ := RS pot s1 s2 s3 s4 s5 (vl (srcs [p])) (vl (srcs (p :: L))) s9 s10 s11 s12 s13) (call_v (e1_truth g) (ev_two rfl rfl) rfl rfl rfl rfl) (tup_ok (ev_two rfl rfl) rfl) (by simp only [D.tx, D.txs, srcs, List.map_cons, List.map_nil, srcD, Bool.and_true]; decide +kernel) (by simp [D.py, D.pys, PyData.depth, PyData.depthAll, srcs, srcD])
  have a3 := neq (f := sCall fn_hull [sVar 7, sC (.int 0)]) (g := sNat nIdx [sVar 7, sC (.int 0)]) (ρ := RS pot s1 s2 s3 s4 s5 (vl (srcs [p])) (vl (srcs (p :: L))) s9 s10 s11 s12 s13) (call_v (e1_hull g) (ev_two rfl rfl) rfl rfl rfl rfl) (nat_ok (ev_two rfl rfl) rfl (o := .val (srcD p)) rfl rfl) rfl (by simp [D.py, D.pys, PyData.depth, PyData.depthAll, srcs, srcD])
  exact (ifs_ff (or_ff a1 (or_ff a2 a3))).trans rfl
theorem r12 (g : Okay [p]) : R12 (RS pot s1 s2 s3 s4 s5 (vl (srcs [p])) (vl (srcs (p :: L))) s9 s10 s11 s12 s13) = .nx (RS pot s1 s2 s3 s4 s5 (vl (srcs [p])) (vl (srcs (p :: L))) s9 s10 s11 s12 s13) := by
  have a1 := neq (f := sCall fn_trimmed [sVar 7, sC (.int 0)]) (g := sNat nIdx [sVar 7, sC (.int 0)]) (ρ := RS pot s1 s2 s3 s4 s5 (vl (srcs [p])) (vl (srcs (p :: L))) s9 s10 s11 s12 s13) (call_v (e1_trimmed g) (ev_two rfl rfl) rfl rfl rfl rfl) (nat_ok (ev_two rfl rfl) rfl (o := .val (srcD p)) rfl rfl) rfl (by simp [D.py, D.pys, PyData.depth, PyData.depthAll, srcs, srcD])
  have a2 := neq (f := sCall fn_surely_right [sVar 7, sC (.int 0)]) (g := sTup [sC (.int 0)]) (ρ := RS pot s1 s2 s3 s4 s5 (vl (srcs [p])) (vl (srcs (p :: L))) s9 s10 s11 s12 s13) (call_v (e1_right g) (ev_two rfl rfl) rfl rfl rfl rfl) (tup_ok (ev_one rfl) rfl) rfl (by simp [D.py, D.pys, PyData.depth, PyData.depthAll])
  have a3 := neq (f := sCall fn_surely_wrong [sVar 7, sC (.int 0)]) (g := sTup []) (ρ := RS pot s1 s2 s3 s4 s5 (vl (srcs [p])) (vl (srcs (p :: L))) s9 s10 s11 s12 s13) (call_v (e1_wrong g) (ev_two rfl rfl) rfl rfl rfl rfl) (tup_ok rfl rfl) rfl (by simp [D.py, D.pys, PyData.depth, PyData.depthAll])
  exact (ifs_ff (or_ff a1 (or_ff a2 a3))).trans rfl
theorem r13 (g : Okay [p]) (gL : Okay (p :: L)) : R13 (RS pot (vl (.int ((p :: L).length : Int))) s2 s3 s4 s5 (vl (srcs [p])) (vl (srcs (p :: L))) s9 s10 s11 s12 s13) = .nx (RS pot (vl (.int ((p :: L).length : Int))) s2 s3 s4 s5 (vl (srcs [p])) (vl (srcs (p :: L))) s9 s10 s11 s12 s13) := by
  have hf := gL.few
  have a1 := neq (f := sCall fn_pulled [sVar 7, sC (.int 0), sC (.int 0)]) (g := sTup [sNat nNeg [sC (.int 99999)], sC (.int 99999)]) (ρ := RS pot (vl (.int ((p :: L).length : Int))) s2 s3 s4 s5 (vl (srcs [p])) (vl (srcs (p :: L))) s9 s10 s11 s12 s13) (call_v (e1_pulled g) (ev_cons rfl (ev_two rfl rfl)) rfl rfl rfl rfl) (tup_ok (ev_two (r := .val (.int (-99999))) rfl rfl) rfl) rfl (by simp [D.py, D.pys, PyData.depth, PyData.depthAll])
  have w := reps (ρ := RS pot (vl (.int ((p :: L).length : Int))) s2 s3 s4 s5 (vl (srcs [p])) (vl (srcs (p :: L))) s9 s10 s11 s12 s13) (m := (p :: L).length) (p := false) (f := sC (.int 0)) (d := .int 0) rfl (by simp) (by omega) rfl
  have a2 := neq (f := sCall fn_weighed [sVar 8, sNat nRep [sTup [sC (.int 0)], sVar 1], sC (.int 1)]) (g := sTup []) (ρ := RS pot (vl (.int ((p :: L).length : Int))) s2 s3 s4 s5 (vl (srcs [p])) (vl (srcs (p :: L))) s9 s10 s11 s12 s13) (call_v (e0_weighed gL) (ev_cons rfl (ev_two w rfl)) rfl rfl rfl rfl) (tup_ok rfl rfl) rfl (by simp [D.py, D.pys, PyData.depth, PyData.depthAll])
  exact (ifs_ff (or_ff a1 a2)).trans rfl
theorem r14 (g : Okay [p]) : R14 (RS pot s1 s2 s3 s4 s5 (vl (srcs [p])) (vl (srcs (p :: L))) s9 s10 s11 s12 s13) = .ret (.val (.bl true)) (RS pot s1 s2 s3 s4 s5 (vl (srcs [p])) (vl (srcs (p :: L))) s9 s10 s11 s12 s13) :=
  ret_ok (nat_ok (ev_two (f := sCall fn_have [sVar 7, sC (.int 199998)]) (g := sTup []) (ρ := RS pot s1 s2 s3 s4 s5 (vl (srcs [p])) (vl (srcs (p :: L))) s9 s10 s11 s12 s13) (call_v (e1_have g) (ev_two rfl rfl) rfl rfl rfl rfl) (tup_ok rfl rfl)) rfl (eqS_self (d := .tup []) rfl (by simp [D.py, D.pys, PyData.depth, PyData.depthAll])) rfl)
end
theorem e_right {pot : List D} {n : Int} (h : PotOk n pot) (hn : n ≤ 800000) : ∃ pot' : List D, fn__law_right [.own (.lst pot) false] = .ok (.val (.bl true)) [.own (.lst pot') false] ∧ PotOk (n + 1000) pot' := by
  let tl0 : List Sl := [.non, .non, .non, .non, .non, .non, .non, .non, .non, .non, .non, .non, .non, .non, .non, .non]
  obtain ⟨L, t, pot1, e1, hp1, hne, hlen, hsrc, _, _⟩ := src_call (tl := tl0) (most := 7) (far := 15) h (by omega) (by decide) (by decide) (by decide) (by decide)
  have g : Okay L := ⟨⟨hne, fun p hp => (hsrc p hp).le⟩, by omega, fun p hp => ⟨(hsrc p hp).b1, (hsrc p hp).b2⟩⟩
  have hs : ∀ p ∈ L, smallI p.1 ∧ smallI p.2 := fun p hp => by
    have h1 := (hsrc p hp).n1
    have h2 := (hsrc p hp).n2
    have h3 := (hsrc p hp).le
    have h4 : max (6 : Int) 15 = 15 := by decide
    rw [h4] at h1 h2
    constructor
    · show p.1.natAbs < 10 ^ 12
      omega
    · show p.2.natAbs < 10 ^ 12
      omega
  cases L with
  | nil => exact absurd rfl hne
  | cons p L =>
  have g1 : Okay [p] := ⟨⟨by simp, fun q hq => by rw [List.mem_singleton.mp hq]; exact g.le p List.mem_cons_self⟩, by show 1 ≤ 20; decide, fun q hq => by rw [List.mem_singleton.mp hq]; exact g.bd p List.mem_cons_self⟩
  have h7 : (p :: L).length ≤ 7 := by omega
  have h0 : 1 ≤ (p :: L).length := by simp
  let M : Sl := vl (.int ((p :: L).length : Int))
  have a1 : R1 (.own (.lst pot) true :: tl0) = .nx (RS pot1 .non .non .non .non .non .non (vl (srcs (p :: L))) (vl (.int t)) .non .non .non .non) := asgT_ok e1 rfl (two_g (gN_ok rfl rfl) (gN_ok rfl rfl))
  have a2 : R2 (RS pot1 .non .non .non .non .non .non (vl (srcs (p :: L))) (vl (.int t)) .non .non .non .non) = .nx (RS pot1 M .non .non .non .non .non (vl (srcs (p :: L))) (vl (.int t)) .non .non .non .non) :=
    asg_ok (i := 1) (len_srcs (p :: L) (i := 8) (p := false) rfl) rfl (st_ok rfl rfl)
  have a3 := r3 (pot := pot1) (s1 := M) (s3 := .non) (s4 := .non) (s5 := .non) (s7 := .non) (s9 := vl (.int t)) (s10 := .non) (s11 := .non) (s12 := .non) (s13 := .non) (L := p :: L)
  obtain ⟨nv, pot2, mn, a4, hp2⟩ := r4 (s1 := M) (s3 := .non) (s4 := .non) (s5 := .non) (s7 := .non) (s8 := vl (srcs (p :: L))) (s9 := vl (.int t)) (s10 := .non) (s11 := .non) (s12 := .non) (s13 := .non) (L := p :: L) hp1 (by omega) rfl
  let S2 : Sl := .own (.lst (NN (p :: L))) false
  obtain ⟨bv, fv, pot3, mb, mf, a5, hp3⟩ := r5 (s1 := M) (s2 := S2) (s3 := vl nv) (s4 := .non) (s5 := .non) (s7 := .non) (s8 := vl (srcs (p :: L))) (s9 := vl (.int t)) (s10 := .non) (s11 := .non) (s12 := .non) (s13 := .non) hp2 (by omega) rfl rfl
  obtain ⟨wv, sv, pot4, mw, ms, a6, hp4⟩ := r6 (m := (p :: L).length) (s2 := S2) (s3 := vl nv) (s4 := .non) (s5 := .non) (s7 := .non) (s8 := vl (srcs (p :: L))) (s9 := vl (.int t)) (s10 := vl bv) (s11 := vl fv) (s12 := .non) (s13 := .non) hp3 (by omega) rfl rfl
  obtain ⟨gv, pot5, hg, a7, hp5⟩ := r7 (m := (p :: L).length) (s2 := S2) (s3 := vl nv) (s4 := .non) (s5 := .non) (s7 := .non) (s8 := vl (srcs (p :: L))) (s9 := vl (.int t)) (s10 := vl bv) (s11 := vl fv) (s12 := vl wv) (s13 := vl sv) hp4 (by omega) h0 (by omega) rfl
  have a8 := r8 (pot := pot5) (m := (p :: L).length) (s2 := S2) (s3 := vl nv) (s4 := vl gv) (s5 := .non) (s7 := .non) (s8 := vl (srcs (p :: L))) (s9 := vl (.int t)) (s10 := vl bv) (s11 := vl fv) (s12 := vl wv) (s13 := vl sv) h0 (by omega) rfl
  let O : Sl := vl (.tup (List.replicate (p :: L).length (.int 1)))
  have a9 : R9 (RS pot5 M S2 (vl nv) (vl gv) O .non (vl (srcs (p :: L))) (vl (.int t)) (vl bv) (vl fv) (vl wv) (vl sv)) = .nx (RS pot5 M S2 (vl nv) (vl gv) O .non (vl (srcs (p :: L))) (vl (.int t)) (vl bv) (vl fv) (vl wv) (vl sv)) :=
    r9 rfl (looks_ok g h7 hs mn hg mb mf mw ms rfl rfl rfl rfl rfl rfl rfl rfl)
  have a10 := r10 (pot := pot5) (s1 := M) (s2 := S2) (s3 := vl nv) (s4 := vl gv) (s5 := O) (s7 := .non) (s9 := vl (.int t)) (s10 := vl bv) (s11 := vl fv) (s12 := vl wv) (s13 := vl sv) (L := L) (p := p) rfl
  have a11 := r11 (pot := pot5) (s1 := M) (s2 := S2) (s3 := vl nv) (s4 := vl gv) (s5 := O) (s9 := vl (.int t)) (s10 := vl bv) (s11 := vl fv) (s12 := vl wv) (s13 := vl sv) (L := L) g1
  have a12 := r12 (pot := pot5) (s1 := M) (s2 := S2) (s3 := vl nv) (s4 := vl gv) (s5 := O) (s9 := vl (.int t)) (s10 := vl bv) (s11 := vl fv) (s12 := vl wv) (s13 := vl sv) (L := L) g1
  have a13 := r13 (pot := pot5) (s2 := S2) (s3 := vl nv) (s4 := vl gv) (s5 := O) (s9 := vl (.int t)) (s10 := vl bv) (s11 := vl fv) (s12 := vl wv) (s13 := vl sv) (L := L) g1 g
  have a14 := r14 (pot := pot5) (s1 := M) (s2 := S2) (s3 := vl nv) (s4 := vl gv) (s5 := O) (s9 := vl (.int t)) (s10 := vl bv) (s11 := vl fv) (s12 := vl wv) (s13 := vl sv) (L := L) g1
  refine ⟨pot5, ?_, hp5.mono (by omega)⟩
  have hb : body__law_right (.own (.lst pot) true :: tl0) = .ret (.val (.bl true)) (RS pot5 M S2 (vl nv) (vl gv) O (vl (srcs [p])) (vl (srcs (p :: L))) (vl (.int t)) (vl bv) (vl fv) (vl wv) (vl sv)) := by
    refine (cons_nx a1).trans ?_
    refine (cons_nx a2).trans ?_
    refine (cons_nx a3).trans ?_
    refine (cons_nx a4).trans ?_
    refine (cons_nx a5).trans ?_
    refine (cons_nx a6).trans ?_
    refine (cons_nx a7).trans ?_
    refine (cons_nx a8).trans ?_
    refine (cons_nx a9).trans ?_
    refine (cons_nx a10).trans ?_
    refine (cons_nx a11).trans ?_
    refine (cons_nx a12).trans ?_
    refine (cons_nx a13).trans ?_
    exact cons_ret a14
  exact run_r hb rfl rfl rfl rfl rfl
theorem all_true : ∀ ds : List D, (∀ d ∈ ds, d = .bl true) → nAll [.lst ds] = some (.val (.bl true)) := by
  have one : ∀ ds : List D, (∀ d ∈ ds, d = .bl true) → D.bls? ds = some (ds.map fun _ => true) := by
    intro ds
    induction ds with
    | nil => intro _; rfl
    | cons d ds ih =>
      intro h
      have e := h d List.mem_cons_self
      subst e
      simp only [D.bls?, ih fun x hx => h x (List.mem_cons_of_mem _ hx), Option.map_some, List.map_cons]
  intro ds h
  simp only [nAll, one ds h, Option.map_some]
  congr 3
  simp
theorem law_ok (ns : List Int) : ∃ ps', fn_law [.val (.lst (ns.map D.int)) false] = .ok (.val (.bl true)) ps' := by
  let S : Sl := vl (.lst (ns.map .int))
  obtain ⟨k, hk, ec⟩ := e_cells ns
  let ρ0 : Rho := [S, .non, .non, .non]
  have hit : sSeq (sCall fn__law_cells [sVar 0, sC (.int 2)]) ρ0 = .ok ((List.range k).map fun (i : Nat) => .int (i : Int)) ρ0 := seq_new (call_v ec rfl rfl rfl rfl rfl)
  obtain ⟨ρ', e, s1, s2, rfl, _⟩ := for_ev (t := gN 1) (F := sCons (sAsg 2 (sCall fn__law_pot [sVar 0, sVar 1])) (sCons (sIfS (sNot (sNat nAll [sComp (sRng1 (sC (.int 5))) (gN 3) (sC (.bl true)) (sCall fn__law_right [sVar 2]) [3]])) (sCons (sRet (sC (.bl false))) (sNil)) (sNil)) (sNil))) (fun (i : Nat) => D.int (i : Int))
    (fun rem ρ => ∃ s1 s2, ρ = [S, s1, s2, .non] ∧ s1.pinned = false ∧ s2.pinned = false ∧ ∀ x ∈ rem, x < 2)
    (fun i rem ρ ⟨s1, s2, e, h1, h2, hm⟩ => by
      subst e
      have hi := hm i List.mem_cons_self
      obtain ⟨pot, ep, hp⟩ := e_pot ns (i : Int) (by omega) (by omega)
      let ρ1 : Rho := [S, vl (.int (i : Int)), s2, .non]
      let ρ2 : Rho := [S, vl (.int (i : Int)), .own (.lst pot) false, .non]
      have cp : sCall fn__law_pot [sVar 0, sVar 1] ρ1 = .ok (.new (.lst pot)) ρ1 := call_v ep rfl rfl rfl rfl rfl
      have a2 : sAsg 2 (sCall fn__law_pot [sVar 0, sVar 1]) ρ1 = .nx ρ2 := asg_ok (i := 2) cp rfl (st_ok rfl h2)
      have hr := rng1_ok (f := sC (.int 5)) (ρ := ρ2) (k := 5) rfl (by decide) (by decide)
      obtain ⟨ds, ρ', ed, hl, hq, pot', rfl, hp'⟩ := comp_st (t := gN 3) (e := sCall fn__law_right [sVar 2]) (vs := [3]) (List.range (5 : Int).toNat) (fun (i : Nat) => D.int (i : Int))
        (fun k ρ => ∃ pot, ρ = [S, vl (.int (i : Int)), .own (.lst pot) false, .non] ∧ PotOk (1000 * (k : Int)) pot) (fun d => d = .bl true) hr ⟨pot, rfl, hp.mono (by simp)⟩
        (fun k a ρ ha hk ⟨pot, e, hp⟩ => by
          subst e
          have hk : k < 5 := hk
          obtain ⟨pot1, e1, hp1⟩ := e_right hp (by omega)
          have c : sCall fn__law_right [sVar 2] [S, vl (.int (i : Int)), .own (.lst pot) false, vl (.int (a : Int))] = .ok (.val (.bl true)) [S, vl (.int (i : Int)), .own (.lst pot1) false, vl (.int (a : Int))] := call_v e1 (ev_one (r := .own 2) rfl) rfl rfl rfl rfl
          exact ⟨_, _, _, .bl true, _, rfl, c, rfl, rfl, pot1, rfl, hp1.mono (by push_cast; omega)⟩) (by decide)
      have hall : sNat nAll [sComp (sRng1 (sC (.int 5))) (gN 3) (sC (.bl true)) (sCall fn__law_right [sVar 2]) [3]] ρ2 = .ok (.val (.bl true)) [S, vl (.int (i : Int)), .own (.lst pot') false, .non] := nat_ok (ds := [.lst ds]) (ev_one ed) rfl (all_true ds hq) rfl
      refine ⟨ρ1, [S, vl (.int (i : Int)), .own (.lst pot') false, .non], gN_ok rfl h1, (cons_nx a2).trans ((cons_nx ((ifs_ff (not_ok hall)).trans rfl)).trans rfl), _, _, rfl, rfl, rfl, fun x hx => hm x (List.mem_cons_of_mem _ hx)⟩) (List.range k) ρ0 ⟨.non, .non, rfl, rfl, rfl, fun x hx => by have := List.mem_range.mp hx; omega⟩
  have hb : body_law ρ0 = .ret (.val (.bl true)) [S, s1, s2, .non] := (cons_nx (for_ok hit e)).trans (cons_ret (ret_ok rfl))
  exact ⟨_, run_r hb rfl rfl rfl rfl rfl⟩

end Sa

open PySem PySem.W PyProof.Rows in
set_option maxRecDepth 100000 in
set_option maxHeartbeats 0 in
theorem PySem.Challenge.cw_surelyahead_k63_what_sources_refuse_holds : PySem.Challenge.rw_surelyahead_k63_what_sources_refuse.Holds := by
  w_on; o_law; k_head; (case hw => w_witness2)
  k_fill
  refine Sa.law_walk (y := "_law_right") (dr := ?dr) rfl ?hrec (l := PySem.Challenge.rw_surelyahead_k63_what_sources_refuse) (n := 63) (k := 13) (x := "script") (F := Sa.fn_law) rfl (by decide) rfl ⟨rfl, by decide, by decide⟩ (fun w h Y => PySem.W.km_in_of Y) ?F (fun ns _ => Sa.law_ok ns)
  case hrec => exact rfl
  case F =>
    intro w mg fa h KX G hmg
    refine' Sa.all_ok KX G hmg ?a0 ?l0 ?c0 ?k0 ?a1 ?l1 ?c1 ?k1 ?a2 ?l2 ?c2 ?k2 ?a3 ?l3 ?c3 ?k3 ?a4 ?l4 ?c4 ?k4 ?a5 ?l5 ?c5 ?k5 ?a6 ?l6 ?c6 ?k6 ?a7 ?l7 ?c7 ?k7 ?a8 ?l8 ?c8 ?k8 ?a9 ?l9 ?c9 ?k9 ?a10 ?l10 ?c10 ?k10 ?a11 ?l11 ?c11 ?k11 ?a12 ?l12 ?c12 ?k12 ?a13 ?l13 ?c13 ?k13 ?a14 ?l14 ?c14 ?k14 ?a15 ?l15 ?c15 ?k15 ?a16 ?l16 ?c16 ?k16 ?a17 ?l17 ?c17 ?k17 ?a18 ?l18 ?c18 ?k18 ?a19 ?l19 ?c19 ?k19 ?a20 ?l20 ?c20 ?k20 ?a21 ?l21 ?c21 ?k21 ?a22 ?l22 ?c22 ?k22 ?a23 ?l23 ?c23 ?k23 ?a24 ?l24 ?c24 ?k24 ?a25 ?l25 ?c25 ?k25 ?a26 ?l26 ?c26 ?k26 ?a27 ?l27 ?c27 ?k27 ?a28 ?l28 ?c28 ?k28 ?a29 ?l29 ?c29 ?k29 ?z_abs ?z_all ?z_any ?z_bool ?z_enumerate ?z_int ?z_isinstance ?z_len ?z_list ?z_max ?z_min ?z_range ?z_repr ?z_set ?z_sorted ?z_sum ?z_tuple ?z_zip ?g_MORE ?g_MOST_FAR ?g_MOST_SOURCES ?g_MOST_TRUTH ?g_MOST_WEIGHT ?g_SPANS ?eG ?eLG ?eCG ?eKG ?eN ?eLN ?eCN ?eKN ?eO ?t1 ?t2 ?eM0 ?eEm0 ?x10 ?x20 ?x30 ?x40 ?x50 ?x80 ?x90 ?i10 ?eM1 ?eEm1 ?x11 ?x21 ?x31 ?x41 ?x51 ?x81 ?x91 ?i11 ?eM2 ?eEm2 ?x12 ?x22 ?x32 ?x42 ?x52 ?x82 ?x92 ?i12 ?eM3 ?eEm3 ?x13 ?x23 ?x33 ?x43 ?x53 ?x83 ?x93 ?i13 ?x6 ?x7 ?i2 ?i3 ?i4 ?i5 ?i6 ?i7 ?i8 ?i9 ?j1 ?j3 ?j4 ?j20 ?j50 ?j60 ?j70 ?j80 ?j90 ?j100 ?j110 ?kt00 ?kt01 ?kt02 ?kt03 ?j21 ?j51 ?j61 ?j71 ?j81 ?j91 ?j101 ?j111 ?kt10 ?kt11 ?kt12 ?kt13 ?j22 ?j52 ?j62 ?j72 ?j82 ?j92 ?j102 ?j112 ?kt20 ?kt21 ?kt22 ?kt23 ?j23 ?j53 ?j63 ?j73 ?j83 ?j93 ?j103 ?j113 ?kt30 ?kt31 ?kt32 ?kt33
    (case a0 => k_is)
    (case l0 => k_is)
    (case c0 => k_is)
    (case k0 => k_is)
    (case a1 => k_is)
    (case l1 => k_is)
    (case c1 => k_is)
    (case k1 => k_is)
    (case a2 => k_is)
    (case l2 => k_is)
    (case c2 => k_is)
    (case k2 => k_is)
    (case a3 => k_is)
    (case l3 => k_is)
    (case c3 => k_is)
    (case k3 => k_is)
    (case a4 => k_is)
    (case l4 => k_is)
    (case c4 => k_is)
    (case k4 => k_is)
    (case a5 => k_is)
    (case l5 => k_is)
    (case c5 => k_is)
    (case k5 => k_is)
    (case a6 => k_is)
    (case l6 => k_is)
    (case c6 => k_is)
    (case k6 => k_is)
    (case a7 => k_is)
    (case l7 => k_is)
    (case c7 => k_is)
    (case k7 => k_is)
    (case a8 => k_is)
    (case l8 => k_is)
    (case c8 => k_is)
    (case k8 => k_is)
    (case a9 => k_is)
    (case l9 => k_is)
    (case c9 => k_is)
    (case k9 => k_is)
    (case a10 => k_is)
    (case l10 => k_is)
    (case c10 => k_is)
    (case k10 => k_is)
    (case a11 => k_is)
    (case l11 => k_is)
    (case c11 => k_is)
    (case k11 => k_is)
    (case a12 => k_is)
    (case l12 => k_is)
    (case c12 => k_is)
    (case k12 => k_is)
    (case a13 => k_is)
    (case l13 => k_is)
    (case c13 => k_is)
    (case k13 => k_is)
    (case a14 => k_is)
    (case l14 => k_is)
    (case c14 => k_is)
    (case k14 => k_is)
    (case a15 => k_is)
    (case l15 => k_is)
    (case c15 => k_is)
    (case k15 => k_is)
    (case a16 => k_is)
    (case l16 => k_is)
    (case c16 => k_is)
    (case k16 => k_is)
    (case a17 => k_is)
    (case l17 => k_is)
    (case c17 => k_is)
    (case k17 => k_is)
    (case a18 => k_is)
    (case l18 => k_is)
    (case c18 => k_is)
    (case k18 => k_is)
    (case a19 => k_is)
    (case l19 => k_is)
    (case c19 => k_is)
    (case k19 => k_is)
    (case a20 => k_is)
    (case l20 => k_is)
    (case c20 => k_is)
    (case k20 => k_is)
    (case a21 => k_is)
    (case l21 => k_is)
    (case c21 => k_is)
    (case k21 => k_is)
    (case a22 => k_is)
    (case l22 => k_is)
    (case c22 => k_is)
    (case k22 => k_is)
    (case a23 => k_is)
    (case l23 => k_is)
    (case c23 => k_is)
    (case k23 => k_is)
    (case a24 => k_is)
    (case l24 => k_is)
    (case c24 => k_is)
    (case k24 => k_is)
    (case a25 => k_is)
    (case l25 => k_is)
    (case c25 => k_is)
    (case k25 => k_is)
    (case a26 => k_is)
    (case l26 => k_is)
    (case c26 => k_is)
    (case k26 => k_is)
    (case a27 => k_is)
    (case l27 => k_is)
    (case c27 => k_is)
    (case k27 => k_is)
    (case a28 => k_is)
    (case l28 => k_is)
    (case c28 => k_is)
    (case k28 => k_is)
    (case a29 => k_is)
    (case l29 => k_is)
    (case c29 => k_is)
    (case k29 => k_is)
    (case z_abs => k_is)
    (case z_all => k_is)
    (case z_any => k_is)
    (case z_bool => k_is)
    (case z_enumerate => k_is)
    (case z_int => k_is)
    (case z_isinstance => k_is)
    (case z_len => k_is)
    (case z_list => k_is)
    (case z_max => k_is)
    (case z_min => k_is)
    (case z_range => k_is)
    (case z_repr => k_is)
    (case z_set => k_is)
    (case z_sorted => k_is)
    (case z_sum => k_is)
    (case z_tuple => k_is)
    (case z_zip => k_is)
    (case g_MORE => k_is)
    (case g_MOST_FAR => k_is)
    (case g_MOST_SOURCES => k_is)
    (case g_MOST_TRUTH => k_is)
    (case g_MOST_WEIGHT => k_is)
    (case g_SPANS => k_is)
    (case eG => first | k_is | rfl | decide +kernel)
    (case eLG => first | k_is | rfl | decide +kernel)
    (case eCG => first | k_is | rfl | decide +kernel)
    (case eKG => first | k_is | rfl | decide +kernel)
    (case eN => first | k_is | rfl | decide +kernel)
    (case eLN => first | k_is | rfl | decide +kernel)
    (case eCN => first | k_is | rfl | decide +kernel)
    (case eKN => first | k_is | rfl | decide +kernel)
    (case eO => first | k_is | rfl | decide +kernel)
    (case t1 => first | k_is | rfl | decide +kernel)
    (case t2 => first | k_is | rfl | decide +kernel)
    (case eM0 => first | k_is | rfl | decide +kernel)
    (case eEm0 => first | k_is | rfl | decide +kernel)
    (case x10 => first | k_is | rfl | decide +kernel)
    (case x20 => first | k_is | rfl | decide +kernel)
    (case x30 => first | k_is | rfl | decide +kernel)
    (case x40 => first | k_is | rfl | decide +kernel)
    (case x50 => first | k_is | rfl | decide +kernel)
    (case x80 => first | k_is | rfl | decide +kernel)
    (case x90 => first | k_is | rfl | decide +kernel)
    (case i10 => first | k_is | rfl | decide +kernel)
    (case eM1 => first | k_is | rfl | decide +kernel)
    (case eEm1 => first | k_is | rfl | decide +kernel)
    (case x11 => first | k_is | rfl | decide +kernel)
    (case x21 => first | k_is | rfl | decide +kernel)
    (case x31 => first | k_is | rfl | decide +kernel)
    (case x41 => first | k_is | rfl | decide +kernel)
    (case x51 => first | k_is | rfl | decide +kernel)
    (case x81 => first | k_is | rfl | decide +kernel)
    (case x91 => first | k_is | rfl | decide +kernel)
    (case i11 => first | k_is | rfl | decide +kernel)
    (case eM2 => first | k_is | rfl | decide +kernel)
    (case eEm2 => first | k_is | rfl | decide +kernel)
    (case x12 => first | k_is | rfl | decide +kernel)
    (case x22 => first | k_is | rfl | decide +kernel)
    (case x32 => first | k_is | rfl | decide +kernel)
    (case x42 => first | k_is | rfl | decide +kernel)
    (case x52 => first | k_is | rfl | decide +kernel)
    (case x82 => first | k_is | rfl | decide +kernel)
    (case x92 => first | k_is | rfl | decide +kernel)
    (case i12 => first | k_is | rfl | decide +kernel)
    (case eM3 => first | k_is | rfl | decide +kernel)
    (case eEm3 => first | k_is | rfl | decide +kernel)
    (case x13 => first | k_is | rfl | decide +kernel)
    (case x23 => first | k_is | rfl | decide +kernel)
    (case x33 => first | k_is | rfl | decide +kernel)
    (case x43 => first | k_is | rfl | decide +kernel)
    (case x53 => first | k_is | rfl | decide +kernel)
    (case x83 => first | k_is | rfl | decide +kernel)
    (case x93 => first | k_is | rfl | decide +kernel)
    (case i13 => first | k_is | rfl | decide +kernel)
    (case x6 => first | k_is | rfl | decide +kernel)
    (case x7 => first | k_is | rfl | decide +kernel)
    (case i2 => first | k_is | rfl | decide +kernel)
    (case i3 => first | k_is | rfl | decide +kernel)
    (case i4 => first | k_is | rfl | decide +kernel)
    (case i5 => first | k_is | rfl | decide +kernel)
    (case i6 => first | k_is | rfl | decide +kernel)
    (case i7 => first | k_is | rfl | decide +kernel)
    (case i8 => first | k_is | rfl | decide +kernel)
    (case i9 => first | k_is | rfl | decide +kernel)
    (case j1 => first | k_is | rfl | decide +kernel)
    (case j3 => first | k_is | rfl | decide +kernel)
    (case j4 => first | k_is | rfl | decide +kernel)
    (case j20 => first | k_is | rfl | decide +kernel)
    (case j50 => first | k_is | rfl | decide +kernel)
    (case j60 => first | k_is | rfl | decide +kernel)
    (case j70 => first | k_is | rfl | decide +kernel)
    (case j80 => first | k_is | rfl | decide +kernel)
    (case j90 => first | k_is | rfl | decide +kernel)
    (case j100 => first | k_is | rfl | decide +kernel)
    (case j110 => first | k_is | rfl | decide +kernel)
    (case kt00 => first | k_is | rfl | decide +kernel)
    (case kt01 => first | k_is | rfl | decide +kernel)
    (case kt02 => first | k_is | rfl | decide +kernel)
    (case kt03 => first | k_is | rfl | decide +kernel)
    (case j21 => first | k_is | rfl | decide +kernel)
    (case j51 => first | k_is | rfl | decide +kernel)
    (case j61 => first | k_is | rfl | decide +kernel)
    (case j71 => first | k_is | rfl | decide +kernel)
    (case j81 => first | k_is | rfl | decide +kernel)
    (case j91 => first | k_is | rfl | decide +kernel)
    (case j101 => first | k_is | rfl | decide +kernel)
    (case j111 => first | k_is | rfl | decide +kernel)
    (case kt10 => first | k_is | rfl | decide +kernel)
    (case kt11 => first | k_is | rfl | decide +kernel)
    (case kt12 => first | k_is | rfl | decide +kernel)
    (case kt13 => first | k_is | rfl | decide +kernel)
    (case j22 => first | k_is | rfl | decide +kernel)
    (case j52 => first | k_is | rfl | decide +kernel)
    (case j62 => first | k_is | rfl | decide +kernel)
    (case j72 => first | k_is | rfl | decide +kernel)
    (case j82 => first | k_is | rfl | decide +kernel)
    (case j92 => first | k_is | rfl | decide +kernel)
    (case j102 => first | k_is | rfl | decide +kernel)
    (case j112 => first | k_is | rfl | decide +kernel)
    (case kt20 => first | k_is | rfl | decide +kernel)
    (case kt21 => first | k_is | rfl | decide +kernel)
    (case kt22 => first | k_is | rfl | decide +kernel)
    (case kt23 => first | k_is | rfl | decide +kernel)
    (case j23 => first | k_is | rfl | decide +kernel)
    (case j53 => first | k_is | rfl | decide +kernel)
    (case j63 => first | k_is | rfl | decide +kernel)
    (case j73 => first | k_is | rfl | decide +kernel)
    (case j83 => first | k_is | rfl | decide +kernel)
    (case j93 => first | k_is | rfl | decide +kernel)
    (case j103 => first | k_is | rfl | decide +kernel)
    (case j113 => first | k_is | rfl | decide +kernel)
    (case kt30 => first | k_is | rfl | decide +kernel)
    (case kt31 => first | k_is | rfl | decide +kernel)
    (case kt32 => first | k_is | rfl | decide +kernel)
    (case kt33 => first | k_is | rfl | decide +kernel)
#print axioms PySem.Challenge.cw_surelyahead_k63_what_sources_refuse_holds
