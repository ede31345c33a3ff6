import PyProof.Rows.All
import HandS.ForMost
import HandS.Exc
import HandS.ExcOwn
import HandS.TryOnly
import HandS.ExcIs
import HandS.WordsExc
import HandS.CallSlots
import HandS.Wide
import HandS.TupAny
import HandS.Lambda
import HandS.IsInst
import HandS.Style
import HandS.TupMul
import HandS.SortInts
import HandS.EndTab
import KE.DataMinMax
import HandS.Rev
import HandS.Conv
import HandS.Zip
import HandS.RevTup
import HandS.DictComp
import HandS.WideBits
import KE.GoesEnum
import KE.SortData
import HandS.Deep
import HandS.Iter
import HandS.More
import HandS.SetFor
import HandS.Strs
import PySem.Challenge.RW_nextterms_k36_whole_primes_in_products
set_option Elab.async false
set_option linter.all false
set_option maxRecDepth 100000
set_option autoImplicit true
/-! A layer of readings over data: values as trees (D), local lists that change as owned slots (Sl.o), the heap hidden. -/
namespace DL
open PySem PySem.Spec PyProof.Rows L2

theorem nf {a b : Addr} {H : Hp} {o : HO} (h : H a = some o) (h' : H b = none) : a ≠ b := ne_of_none h h'
/-! ### data -/
inductive D where
  | non | bl (b : Bool) | int (i : Int) | str (x : Str) | lst (xs : List D) | tup (xs : List D) | sq (xs : List D) | dic (ks vs : List D) | opq (v : V)
def keyD : Key → D
  | .inl i => .int i
  | .inr x => .str x
/-- a dict's keys as data, its values -/
def HDic (o : HO) (ks : List D) (us : List V) : Prop := ∃ kvs : List (Key × V), o = .dK kvs ∧ ks = kvs.map (fun p => keyD p.1) ∧ us = kvs.map (·.2)
theorem HDic.nt {o : HO} {ks : List D} {us : List V} (h : HDic o ks us) : ∀ ps, o ≠ .tbl ps := by
  obtain ⟨_, rfl, _⟩ := h
  exact fun _ z => nomatch z
theorem HDic.nc {o : HO} {ks : List D} {us : List V} (h : HDic o ks us) : ∀ p q, o ≠ LamX.CodeO p q := by
  intro p q z
  unfold LamX.CodeO at z
  obtain ⟨_, rfl, _⟩ := h
  cases z

def Ex (H H' : Hp) : Prop := ∀ a o, H a = some o → H' a = some o
/-- what lies at a is no table of code objects -/
def nT (H : Hp) (a : Addr) : Prop := ∃ o, H a = some o ∧ ∀ ps, o ≠ .tbl ps
theorem nT_l {H : Hp} {a : Addr} {us : List V} (h : H a = some (.lst us)) : nT H a := ⟨_, h, fun _ z => nomatch z⟩
theorem nT_no {H : Hp} {a : Addr} (h : H a = none) : ¬ nT H a := fun ⟨o, e, _⟩ => by rw [h] at e; cases e
theorem nT_ne {H : Hp} {a p : Addr} (h : nT H a) (hp : H p = none) : a ≠ p := fun z => nT_no hp (by rw [← z]; exact h)
theorem nT_un {H : Hp} {a p : Addr} {o : HO} (h : ∀ ps, o ≠ .tbl ps) (k : a ≠ p → nT H a) : nT (upd H p o) a := by
  by_cases z : a = p
  · exact ⟨o, by rw [z, upd_same], h⟩
  · obtain ⟨o', h1, h2⟩ := k z
    exact ⟨o', by rw [upd_ne z]; exact h1, h2⟩
/-- the tables are told; no table is known for good -/
def Tb (T : List (Addr × Str)) (G H : Hp) : Prop := LamX.Tabs T H ∧ ∀ a ps, G a ≠ some (.tbl ps)
theorem noT_upd {G : Hp} {p : Addr} {o : HO} (h : ∀ a ps, G a ≠ some (.tbl ps)) (ho : ∀ ps, o ≠ .tbl ps) : ∀ a ps, upd G p o a ≠ some (.tbl ps) := fun a ps z => by
  by_cases q : a = p
  · rw [q, upd_same] at z
    exact ho ps (Option.some.inj z)
  · rw [upd_ne q] at z
    exact h a ps z
theorem Ex.refl (H : Hp) : Ex H H := fun _ _ h => h
theorem Ex.trans {H H1 H2 : Hp} (a : Ex H H1) (b : Ex H1 H2) : Ex H H2 := fun x o h => b x o (a x o h)
theorem Ex.new {H : Hp} {p : Addr} {o : HO} (h : H p = none) : Ex H (upd H p o) := fun a u e => by
  rw [upd_ne (ne_of_none e h)]
  exact e
theorem Ex.mut {H H' : Hp} {p : Addr} {o : HO} (e : Ex H H') (h : H p = none) : Ex H (upd H' p o) := fun a u ha => by
  rw [upd_ne (ne_of_none ha h)]
  exact e a u ha
theorem Ex.upd {H H' : Hp} {p : Addr} {o : HO} (e : Ex H H') : Ex (upd H p o) (upd H' p o) := fun a u ha => by
  by_cases h : a = p
  · subst h
    rw [upd_same] at ha ⊢
    exact ha
  · rw [upd_ne h] at ha ⊢
    exact e a u ha
theorem Ex.back {H H' : Hp} {p : Addr} (e : Ex H H') (h : H' p = none) : H p = none := by
  cases h1 : H p with
  | none => rfl
  | some o =>
    rw [e p o h1] at h
    cases h
theorem ex_rd {H H' : Hp} {a : Addr} {u : HO} (e : Ex H H') (h : Rd H a u) : Rd H' a u := by
  rcases h with h | ⟨o, h⟩
  · exact Or.inl (e a _ h)
  · exact Or.inr ⟨o, e a _ h⟩
theorem ex_l {K : PySem.W.Frag} {H H' : Hp} {a : Addr} {xs : List V} (e : Ex H H') (h : SqL K H a xs) : SqL K H' a xs := by
  rcases h with h | h
  · exact Or.inl (ex_rd e h)
  · exact Or.inr h
theorem ex_lt {K : PySem.W.Frag} {H H' : Hp} {a : Addr} {xs : List V} (e : Ex H H') (h : H a = some (.lst xs)) : SqL K H' a xs := Or.inl (Or.inl (e a _ h))
theorem ex_t {K : PySem.W.Frag} {H H' : Hp} {a : Addr} {xs : List V} (e : Ex H H') (h : SqT K H a xs) : SqT K H' a xs := by
  rcases h with h | h
  · exact Or.inl (ex_rd e h)
  · exact Or.inr h

section
variable (K : PySem.W.Frag) (G : Hp)
mutual
def Rp : D → V → Prop
  | .non, v => v = .non
  | .bl b, v => v = .bl b
  | .int i, v => v = .int i
  | .str x, v => v = .str x
  | .lst ds, v => ∃ a xs, v = .ref a ∧ G a = some (.lst xs) ∧ RpL ds xs
  | .sq ds, v => ∃ a xs, v = .ref a ∧ SqL K G a xs ∧ RpL ds xs
  | .tup ds, v => ∃ a xs, v = .ref a ∧ SqT K G a xs ∧ RpL ds xs
  | .dic ks ds, v => ∃ a o xs, v = .ref a ∧ G a = some o ∧ HDic o ks xs ∧ RpL ds xs
  | .opq w, v => v = w
def RpL : List D → List V → Prop
  | [], xs => xs = []
  | d :: ds, xs => ∃ x r, xs = x :: r ∧ Rp d x ∧ RpL ds r
end
end
section
variable {K : PySem.W.Frag} {G G' : Hp}
mutual
theorem Rp.mono (e : Ex G G') : ∀ (d : D) (v : V), Rp K G d v → Rp K G' d v
  | .non, _, h => h
  | .bl _, _, h => h
  | .int _, _, h => h
  | .str _, _, h => h
  | .opq _, _, h => h
  | .lst ds, v, h => by
    obtain ⟨a, xs, h1, h2, h3⟩ := h
    exact ⟨a, xs, h1, e _ _ h2, RpL.mono e ds xs h3⟩
  | .sq ds, v, h => by
    obtain ⟨a, xs, h1, h2, h3⟩ := h
    exact ⟨a, xs, h1, ex_l e h2, RpL.mono e ds xs h3⟩
  | .tup ds, v, h => by
    obtain ⟨a, xs, h1, h2, h3⟩ := h
    exact ⟨a, xs, h1, ex_t e h2, RpL.mono e ds xs h3⟩
  | .dic ks ds, v, h => by
    obtain ⟨a, o, xs, h1, h2, h3, h4⟩ := h
    exact ⟨a, o, xs, h1, e _ _ h2, h3, RpL.mono e ds xs h4⟩
theorem RpL.mono (e : Ex G G') : ∀ (ds : List D) (vs : List V), RpL K G ds vs → RpL K G' ds vs
  | [], _, h => h
  | d :: ds, vs, h => by
    obtain ⟨x, r, h1, h2, h3⟩ := h
    exact ⟨x, r, h1, Rp.mono e d x h2, RpL.mono e ds r h3⟩
end
theorem RpL.length : ∀ {ds : List D} {vs : List V}, RpL K G ds vs → vs.length = ds.length
  | [], _, h => by rw [show _ = _ from h]; rfl
  | d :: ds, _, h => by
    obtain ⟨x, r, rfl, _, h3⟩ := h
    rw [List.length_cons, List.length_cons, RpL.length h3]
theorem RpL.get : ∀ {ds : List D} {vs : List V} {i : Nat} {d : D}, RpL K G ds vs → ds[i]? = some d → ∃ v, vs[i]? = some v ∧ Rp K G d v
  | [], _, _, _, _, e => by simp at e
  | d :: ds, _, 0, _, h, e => by
    obtain ⟨x, r, rfl, h2, _⟩ := h
    rw [List.getElem?_cons_zero] at e ⊢
    cases e
    exact ⟨x, rfl, h2⟩
  | d :: ds, _, i + 1, _, h, e => by
    obtain ⟨x, r, rfl, _, h3⟩ := h
    rw [List.getElem?_cons_succ] at e ⊢
    exact RpL.get h3 e
theorem RpL.getV : ∀ {ds : List D} {vs : List V} {i : Nat} {v : V}, RpL K G ds vs → vs[i]? = some v → ∃ d, ds[i]? = some d ∧ Rp K G d v
  | [], _, _, _, h, e => by
    rw [show _ = _ from h] at e
    simp at e
  | d :: ds, _, 0, _, h, e => by
    obtain ⟨x, r, rfl, h2, _⟩ := h
    rw [List.getElem?_cons_zero] at e ⊢
    cases e
    exact ⟨d, rfl, h2⟩
  | d :: ds, _, i + 1, _, h, e => by
    obtain ⟨x, r, rfl, _, h3⟩ := h
    rw [List.getElem?_cons_succ] at e ⊢
    exact RpL.getV h3 e
theorem RpL.append : ∀ {ds es : List D} {vs us : List V}, RpL K G ds vs → RpL K G es us → RpL K G (ds ++ es) (vs ++ us)
  | [], _, _, _, h, h' => by rw [show _ = _ from h]; exact h'
  | d :: ds, _, _, _, h, h' => by
    obtain ⟨x, r, rfl, h2, h3⟩ := h
    exact ⟨x, r ++ _, rfl, h2, RpL.append h3 h'⟩
theorem RpL.set : ∀ {ds : List D} {vs : List V} (i : Nat) {d : D} {v : V}, RpL K G ds vs → Rp K G d v → RpL K G (ds.set i d) (vs.set i v)
  | [], _, _, _, _, h, _ => by rw [show _ = _ from h]; exact rfl
  | d :: ds, _, 0, _, _, h, h' => by
    obtain ⟨x, r, rfl, h2, h3⟩ := h
    exact ⟨_, r, rfl, h', h3⟩
  | d :: ds, _, i + 1, _, _, h, h' => by
    obtain ⟨x, r, rfl, h2, h3⟩ := h
    exact ⟨x, r.set i _, rfl, h2, RpL.set i h3 h'⟩
theorem RpL.take : ∀ {ds : List D} {vs : List V} (i : Nat), RpL K G ds vs → RpL K G (ds.take i) (vs.take i)
  | _, _, 0, _ => rfl
  | [], _, i + 1, h => by rw [show _ = _ from h]; exact rfl
  | d :: ds, _, i + 1, h => by
    obtain ⟨x, r, rfl, h2, h3⟩ := h
    exact ⟨x, r.take i, rfl, h2, RpL.take i h3⟩
theorem RpL.drop : ∀ {ds : List D} {vs : List V} (i : Nat), RpL K G ds vs → RpL K G (ds.drop i) (vs.drop i)
  | _, _, 0, h => h
  | [], _, i + 1, h => by rw [show _ = _ from h]; exact rfl
  | d :: ds, _, i + 1, h => by
    obtain ⟨x, r, rfl, h2, h3⟩ := h
    exact RpL.drop i h3
theorem RpL.rev : ∀ {ds : List D} {vs : List V}, RpL K G ds vs → RpL K G ds.reverse vs.reverse
  | [], _, h => by rw [show _ = _ from h]; exact rfl
  | d :: ds, _, h => by
    obtain ⟨x, r, rfl, h2, h3⟩ := h
    rw [List.reverse_cons, List.reverse_cons]
    exact (RpL.rev h3).append ⟨x, [], rfl, h2, rfl⟩
theorem RpL.ints : ∀ {ns : List Int} {vs : List V}, RpL K G (ns.map D.int) vs → vs = ns.map V.int
  | [], _, h => h
  | n :: ns, _, h => by
    obtain ⟨x, r, rfl, h2, h3⟩ := h
    rw [RpL.ints h3, show x = _ from h2]
    rfl
theorem RpL.ofInts : ∀ (ns : List Int), RpL K G (ns.map D.int) (ns.map V.int)
  | [] => rfl
  | n :: ns => ⟨_, _, rfl, rfl, RpL.ofInts ns⟩
theorem RpL.bools : ∀ {ns : List Bool} {vs : List V}, RpL K G (ns.map D.bl) vs → vs = ns.map V.bl
  | [], _, h => h
  | n :: ns, _, h => by
    obtain ⟨x, r, rfl, h2, h3⟩ := h
    rw [RpL.bools h3, show x = _ from h2]
    rfl
end

/-! ### slots and states -/
inductive Sl where
  | u | d (x : D) | o (p : Addr) (xs : List D) | h (p : Addr) (ks vs : List D) | k (p : Addr) (f : HO) (ks vs : List D)
abbrev Ev := List Sl
def SlOk (K : PySem.W.Frag) (G H : Hp) : Sl → Option V → Prop
  | .u, _ => True
  | .d x, w => ∃ v, w = some v ∧ Rp K G x v
  | .o p xs, w => w = some (.ref p) ∧ G p = none ∧ ∃ us, H p = some (.lst us) ∧ RpL K G xs us
  | .h p ks vs, w => w = some (.ref p) ∧ G p = none ∧ ∃ o us, H p = some o ∧ HDic o ks us ∧ RpL K G vs us
  | .k p f ks vs, w => w = some (.ref p) ∧ G p = some f ∧ ∃ ob kvs, f = .frz ob (.dK kvs) ∧ ks = kvs.map (fun q => keyD q.1) ∧ RpL K G vs (kvs.map (·.2))
inductive SlL (K : PySem.W.Frag) (G H : Hp) : Ev → L2.St → Prop
  | nil : SlL K G H [] []
  | cons {s : Sl} {v : Option V} {δ : Ev} {σ : L2.St} : SlOk K G H s v → SlL K G H δ σ → SlL K G H (s :: δ) (v :: σ)
def Sl.own : Sl → Option Addr
  | .o p _ => some p
  | .h p _ _ => some p
  | .k p _ _ _ => some p
  | _ => none
def owns (δ : Ev) : List Addr := δ.filterMap Sl.own
structure Fm where
  H0 : Hp
  G0 : Hp
  B : List Addr
structure Rel (K : PySem.W.Frag) (T : List (Addr × Str)) (F : Fm) (G H : Hp) (σ : L2.St) (δ : Ev) : Prop where
  ex : Ex G H
  sl : SlL K G H δ σ
  sep : (owns δ).Nodup
  own : ∀ p ∈ owns δ, p ∈ F.B ∨ ¬ nT F.H0 p
  keep : ∀ a o, a ∉ F.B → F.H0 a = some o → (∀ ps, o ≠ .tbl ps) → H a = some o
  there : ∀ a, nT F.H0 a → nT H a
  gh : ∀ a, a ∉ F.B → nT F.H0 a → G a ≠ none → F.G0 a ≠ none
  tab : Tb T G H

section
variable {K : PySem.W.Frag} {F : Fm} {G G' H H' : Hp} {σ : L2.St} {δ : Ev}
theorem SlOk.mono {s : Sl} {w : Option V} (e : Ex G G') (hk : ∀ p o, s.own = some p → (∀ ps, o ≠ .tbl ps) → H p = some o → G p = none → H' p = some o ∧ G' p = none) (h : SlOk K G H s w) : SlOk K G' H' s w := by
  cases s with
  | u => trivial
  | d x =>
    obtain ⟨v, h1, h2⟩ := h
    exact ⟨v, h1, Rp.mono e _ _ h2⟩
  | o p xs =>
    obtain ⟨h1, h2, us, h3, h4⟩ := h
    obtain ⟨k1, k2⟩ := hk p (.lst us) rfl (fun _ z => nomatch z) h3 h2
    exact ⟨h1, k2, us, k1, RpL.mono e _ _ h4⟩
  | h p ks vs =>
    obtain ⟨h1, h2, o, us, h3, h4, h5⟩ := h
    obtain ⟨k1, k2⟩ := hk p _ rfl h4.nt h3 h2
    exact ⟨h1, k2, o, us, k1, h4, RpL.mono e _ _ h5⟩
  | k p f ks vs =>
    obtain ⟨h1, h2, ob, kvs, h3, h4, h5⟩ := h
    exact ⟨h1, e _ _ h2, ob, kvs, h3, h4, RpL.mono e _ _ h5⟩
end

section
variable {K : PySem.W.Frag} {F : Fm} {G G' H H' : Hp} {σ : L2.St} {δ : Ev}
theorem SlL.mono (e : Ex G G') : ∀ {δ : Ev} {σ : L2.St}, (∀ p ∈ owns δ, ∀ o, (∀ ps, o ≠ .tbl ps) → H p = some o → G p = none → H' p = some o ∧ G' p = none) → SlL K G H δ σ → SlL K G' H' δ σ
  | _, _, _, .nil => .nil
  | s :: δ, _, hk, .cons h t => .cons (SlOk.mono e (fun p o q hn h1 h2 => hk p (by
        show p ∈ List.filterMap Sl.own (s :: δ)
        rw [List.filterMap_cons, q]
        exact List.mem_cons_self) o hn h1 h2) h)
      (SlL.mono e (fun p hp o hn h1 h2 => hk p (by
        show p ∈ List.filterMap Sl.own (s :: δ)
        rw [List.filterMap_cons]
        split
        · exact hp
        · exact List.mem_cons_of_mem _ hp) o hn h1 h2) t)
theorem SlL.len : ∀ {δ : Ev} {σ : L2.St}, SlL K G H δ σ → σ.length = δ.length
  | _, _, .nil => rfl
  | _, _, .cons _ t => by rw [List.length_cons, List.length_cons, t.len]
theorem SlL.get : ∀ {δ : Ev} {σ : L2.St} {i : Nat} {s : Sl}, SlL K G H δ σ → δ[i]? = some s → ∃ v, σ[i]? = some v ∧ SlOk K G H s v
  | _, _, _, _, .nil, e => by simp at e
  | _, _, 0, _, .cons h _, e => by
    rw [List.getElem?_cons_zero] at e ⊢
    cases e
    exact ⟨_, rfl, h⟩
  | _, _, i + 1, _, .cons _ t, e => by
    rw [List.getElem?_cons_succ] at e ⊢
    exact t.get e
theorem SlL.set {s : Sl} {v : Option V} : ∀ {δ : Ev} {σ : L2.St} (i : Nat), SlOk K G H s v → SlL K G H δ σ → SlL K G H (δ.set i s) (σ.set i v)
  | _, _, _, _, .nil => .nil
  | _, _, 0, h, .cons _ t => .cons h t
  | _, _, i + 1, h, .cons h' t => .cons h' (SlL.set i h t)
theorem owns_set_none {s : Sl} (hs : s.own = none) : ∀ (δ : Ev) (i : Nat), (owns (δ.set i s)).Sublist (owns δ)
  | [], _ => List.Sublist.refl _
  | a :: δ, 0 => by
    show (List.filterMap Sl.own (s :: δ)).Sublist (List.filterMap Sl.own (a :: δ))
    rw [List.filterMap_cons, hs, List.filterMap_cons]
    cases a.own with
    | none => exact List.Sublist.refl _
    | some b => exact List.sublist_cons_self _ _
  | a :: δ, i + 1 => by
    have ih := owns_set_none hs δ i
    show (List.filterMap Sl.own (a :: δ.set i s)).Sublist (List.filterMap Sl.own (a :: δ))
    rw [List.filterMap_cons, List.filterMap_cons]
    split
    · exact ih
    · exact ih.cons_cons _
theorem owns_set_mem {p : Addr} {xs : List D} : ∀ (δ : Ev) (i : Nat) (q : Addr), q ∈ owns (δ.set i (.o p xs)) → q = p ∨ q ∈ owns δ
  | [], _, q, h => .inr h
  | a :: δ, 0, q, h => by
    have h : q ∈ p :: owns δ := h
    rcases List.mem_cons.mp h with h | h
    · exact .inl h
    · refine .inr ?_
      show q ∈ List.filterMap Sl.own (a :: δ)
      rw [List.filterMap_cons]
      split
      · exact h
      · exact List.mem_cons_of_mem _ h
  | a :: δ, i + 1, q, h => by
    have h : q ∈ List.filterMap Sl.own (a :: δ.set i (.o p xs)) := h
    show q = p ∨ q ∈ List.filterMap Sl.own (a :: δ)
    rw [List.filterMap_cons] at h ⊢
    split at h
    · exact owns_set_mem δ i q h
    · rcases List.mem_cons.mp h with h | h
      · exact .inr (by rw [h]; exact List.mem_cons_self)
      · exact (owns_set_mem δ i q h).imp id (List.mem_cons_of_mem _)
theorem owns_set_nodup {p : Addr} {xs : List D} : ∀ (δ : Ev) (i : Nat), p ∉ owns δ → (owns δ).Nodup → (owns (δ.set i (.o p xs))).Nodup
  | [], _, _, h => h
  | a :: δ, 0, hp, h => by
    have hs : (owns δ).Sublist (owns (a :: δ)) := by
      show (List.filterMap Sl.own δ).Sublist (List.filterMap Sl.own (a :: δ))
      rw [List.filterMap_cons]
      split
      · exact List.Sublist.refl _
      · exact List.sublist_cons_self _ _
    show (p :: owns δ).Nodup
    exact List.nodup_cons.mpr ⟨fun z => hp (hs.subset z), h.sublist hs⟩
  | a :: δ, i + 1, hp, h => by
    have e1 : owns (a :: δ) = List.filterMap Sl.own (a :: δ) := rfl
    show (List.filterMap Sl.own (a :: δ.set i (.o p xs))).Nodup
    rw [e1, List.filterMap_cons] at hp h
    rw [List.filterMap_cons]
    cases ha : a.own with
    | none =>
      rw [ha] at hp h
      exact owns_set_nodup δ i hp h
    | some q =>
      rw [ha] at hp h
      obtain ⟨h1, h2⟩ := List.nodup_cons.mp h
      refine List.nodup_cons.mpr ⟨fun z => ?_, owns_set_nodup δ i (fun z => hp (List.mem_cons_of_mem _ z)) h2⟩
      rcases owns_set_mem δ i q z with z | z
      · exact hp (by rw [z]; exact List.mem_cons_self)
      · exact h1 z
theorem owns_set_same {p : Addr} {xs ys : List D} : ∀ (δ : Ev) (i : Nat), δ[i]? = some (.o p xs) → owns (δ.set i (.o p ys)) = owns δ
  | [], _, h => by simp at h
  | a :: δ, 0, h => by
    rw [List.getElem?_cons_zero] at h
    cases h
    rfl
  | a :: δ, i + 1, h => by
    rw [List.getElem?_cons_succ] at h
    show List.filterMap Sl.own (a :: δ.set i (.o p ys)) = List.filterMap Sl.own (a :: δ)
    rw [List.filterMap_cons, List.filterMap_cons]
    have ih : List.filterMap Sl.own (δ.set i (.o p ys)) = List.filterMap Sl.own δ := owns_set_same δ i h
    rw [ih]
theorem own_mem {p : Addr} {xs : List D} {i : Nat} (h : δ[i]? = some (.o p xs)) : p ∈ owns δ := List.mem_filterMap.mpr ⟨_, List.mem_of_getElem? h, rfl⟩

theorem Rel.growN (R : Rel K T F G H σ δ) (e1 : Ex G G') (e2 : LamX.ExtN H H') (e3 : Ex G' H') (hg : ∀ a, nT H a → G' a ≠ none → G a ≠ none) (tb : Tb T G' H') : Rel K T F G' H' σ δ where
  ex := e3
  sl := R.sl.mono e1 fun p _ o hn h1 h2 => ⟨e2 _ _ h1 hn, by
    cases q : G' p with
    | none => rfl
    | some o => exact absurd h2 (hg p ⟨_, h1, hn⟩ (by rw [q]; simp))⟩
  sep := R.sep
  own := R.own
  keep := fun a o h1 h2 h3 => e2 _ _ (R.keep a o h1 h2 h3) h3
  there := fun a h => by
    obtain ⟨o, h1, h2⟩ := R.there a h
    exact ⟨o, e2 _ _ h1 h2, h2⟩
  gh := fun a h0 h1 h2 => R.gh a h0 h1 (hg a (R.there a h1) h2)
  tab := tb
theorem Ex.n {H H' : Hp} (e : Ex H H') : LamX.ExtN H H' := fun a o h _ => e a o h
theorem Ex.th {H H' : Hp} (e : Ex H H') : ∀ a, H a ≠ none → H' a ≠ none := fun a h => by
  cases q : H a with
  | none => exact absurd q h
  | some o => rw [e _ _ q]; simp
theorem Rel.grow (R : Rel K T F G H σ δ) (e1 : Ex G G') (e2 : Ex H H') (e3 : Ex G' H') (hg : ∀ a, nT H a → G' a ≠ none → G a ≠ none) (gt : ∀ a ps, G' a ≠ some (.tbl ps)) : Rel K T F G' H' σ δ := R.growN e1 e2.n e3 hg ⟨R.tab.1.ext e2, gt⟩
/-- a new thing, known from now on -/
theorem Rel.alloc {p : Addr} {o : HO} (R : Rel K T F G H σ δ) (hp : H p = none) (ho : ∀ ps, o ≠ .tbl ps := by intro ps z; cases z) : Rel K T F (upd G p o) (upd H p o) σ δ :=
  R.grow (Ex.new (R.ex.back hp)) (Ex.new hp) R.ex.upd (fun a h1 h2 => by
    rw [upd_ne (nT_ne h1 hp)] at h2
    exact h2) (noT_upd R.tab.2 ho)
/-- a new thing, ours alone -/
theorem Rel.temp {p : Addr} {o : HO} (R : Rel K T F G H σ δ) (hp : H p = none) : Rel K T F G (upd H p o) σ δ :=
  R.grow (Ex.refl G) (Ex.new hp) (R.ex.trans (Ex.new hp)) (fun _ _ h => h) R.tab.2
theorem Rel.fresh_own {p : Addr} (R : Rel K T F G H σ δ) (hp : ¬ nT H p) : (¬ nT F.H0 p) ∧ p ∉ owns δ := by
  refine ⟨fun z => hp (R.there p z), fun z => ?_⟩
  · obtain ⟨s, hs, he⟩ := List.mem_filterMap.mp z
    obtain ⟨i, hi⟩ := List.getElem?_of_mem hs
    obtain ⟨v, _, ok⟩ := R.sl.get hi
    cases s with
    | u => cases he
    | d x => cases he
    | o q xs =>
      cases he
      obtain ⟨_, _, us, h3, _⟩ := ok
      exact hp (nT_l h3)
    | h q ks vs =>
      cases he
      obtain ⟨_, _, o, us, h3, h4, _⟩ := ok
      exact hp ⟨o, h3, h4.nt⟩
    | k q f ks vs =>
      cases he
      obtain ⟨_, h2, ob, kvs, rfl, _⟩ := ok
      exact hp ⟨_, R.ex _ _ h2, fun _ z => nomatch z⟩
theorem Rel.setd {i : Nat} {x : D} {v : V} (R : Rel K T F G H σ δ) (h : Rp K G x v) : Rel K T F G H (σ.set i (some v)) (δ.set i (.d x)) where
  ex := R.ex
  sl := R.sl.set i ⟨v, rfl, h⟩
  sep := R.sep.sublist (owns_set_none rfl δ i)
  own := fun p hp => R.own p ((owns_set_none rfl δ i).subset hp)
  keep := R.keep
  there := R.there
  gh := R.gh
  tab := R.tab
theorem Rel.setu {i : Nat} {w : Option V} (R : Rel K T F G H σ δ) : Rel K T F G H (σ.set i w) (δ.set i .u) where
  ex := R.ex
  sl := R.sl.set i trivial
  sep := R.sep.sublist (owns_set_none rfl δ i)
  own := fun p hp => R.own p ((owns_set_none rfl δ i).subset hp)
  keep := R.keep
  there := R.there
  gh := R.gh
  tab := R.tab
theorem Rel.seto {i : Nat} {p : Addr} {xs : List D} {us : List V} (R : Rel K T F G H σ δ) (h1 : H p = some (.lst us)) (h2 : G p = none) (h3 : RpL K G xs us) (h4 : p ∉ owns δ) (h5 : p ∈ F.B ∨ ¬ nT F.H0 p) :
    Rel K T F G H (σ.set i (some (.ref p))) (δ.set i (.o p xs)) where
  ex := R.ex
  sl := R.sl.set i ⟨rfl, h2, us, h1, h3⟩
  sep := owns_set_nodup δ i h4 R.sep
  own := fun q hq => by
    rcases owns_set_mem δ i q hq with z | z
    · rw [z]; exact h5
    · exact R.own q z
  keep := R.keep
  there := R.there
  gh := R.gh
  tab := R.tab
theorem SlL.mut {p : Addr} {xs ys : List D} {us : List V} : ∀ {δ : Ev} {σ : L2.St} {j : Nat}, δ[j]? = some (.o p xs) → (owns δ).Nodup → RpL K G ys us → SlL K G H δ σ → SlL K G (upd H p (.lst us)) (δ.set j (.o p ys)) σ
  | [], _, _, e, _, _, _ => by simp at e
  | s :: δ, _, 0, e, nd, hy, .cons h t => by
    rw [List.getElem?_cons_zero] at e
    cases e
    obtain ⟨h1, h2, _⟩ := h
    have nd : (p :: owns δ).Nodup := nd
    refine .cons ⟨h1, h2, us, upd_same, hy⟩ (t.mono (Ex.refl G) fun q hq o' _ a b => ⟨?_, b⟩)
    rw [upd_ne (fun z => (List.nodup_cons.mp nd).1 (by rw [← z]; exact hq))]
    exact a
  | s :: δ, _, j + 1, e, nd, hy, .cons h t => by
    rw [List.getElem?_cons_succ] at e
    have sub : (owns δ).Sublist (owns (s :: δ)) := by
      show (List.filterMap Sl.own δ).Sublist (List.filterMap Sl.own (s :: δ))
      rw [List.filterMap_cons]
      split
      · exact List.Sublist.refl _
      · exact List.sublist_cons_self _ _
    refine .cons (h.mono (Ex.refl G) fun q o' hs _ a b => ⟨?_, b⟩) (SlL.mut e (nd.sublist sub) hy t)
    have nd : (q :: owns δ).Nodup := by
      have e1 : owns (s :: δ) = List.filterMap Sl.own (s :: δ) := rfl
      rw [e1, List.filterMap_cons, hs] at nd
      exact nd
    rw [upd_ne (fun z => (List.nodup_cons.mp nd).1 (by rw [z]; exact own_mem e))]
    exact a
theorem Rel.oget {j : Nat} {p : Addr} {xs : List D} (R : Rel K T F G H σ δ) (e : δ[j]? = some (.o p xs)) : σ[j]? = some (some (.ref p)) ∧ G p = none ∧ ∃ us, H p = some (.lst us) ∧ RpL K G xs us := by
  obtain ⟨v, h1, h2, h3, h4⟩ := R.sl.get e
  rw [h2] at h1
  exact ⟨h1, h3, h4⟩
theorem Rel.hget {j : Nat} {p : Addr} {ks vs : List D} (R : Rel K T F G H σ δ) (e : δ[j]? = some (.h p ks vs)) : σ[j]? = some (some (.ref p)) ∧ G p = none ∧ ∃ o us, H p = some o ∧ HDic o ks us ∧ RpL K G vs us := by
  obtain ⟨v, h1, h2, h3, h4⟩ := R.sl.get e
  rw [h2] at h1
  exact ⟨h1, h3, h4⟩
theorem Rel.dget {j : Nat} {x : D} (R : Rel K T F G H σ δ) (e : δ[j]? = some (.d x)) : ∃ v, σ[j]? = some (some v) ∧ Rp K G x v := by
  obtain ⟨w, h1, v, h2, h3⟩ := R.sl.get e
  rw [h2] at h1
  exact ⟨v, h1, h3⟩
theorem tabs_upd {G : Hp} {p : Addr} {o : HO} (h : Tb T G H) (h1 : ∀ ps, H p ≠ some (.tbl ps)) (h2 : ∀ q, H p ≠ some (LamX.CodeO p q)) : Tb T G (upd H p o) := by
  refine ⟨fun t ht => ?_, h.2⟩
  obtain ⟨ps, a1, a2, a3⟩ := h.1 t ht
  refine ⟨ps, by rw [upd_ne (fun z => h1 ps (by rw [← z]; exact a1))]; exact a1, a2, fun pos cv hc => ?_⟩
  obtain ⟨c, e1, e2⟩ := a3 pos cv hc
  exact ⟨c, e1, by rw [upd_ne (fun z => h2 t.2 (by rw [← z]; exact e2))]; exact e2⟩
theorem Rel.mut {j : Nat} {p : Addr} {xs ys : List D} {us : List V} (R : Rel K T F G H σ δ) (e : δ[j]? = some (.o p xs)) (h : RpL K G ys us) : Rel K T F G (upd H p (.lst us)) σ (δ.set j (.o p ys)) where
  ex := Ex.mut R.ex (R.oget e).2.1
  sl := SlL.mut e R.sep h R.sl
  sep := by rw [owns_set_same δ j e]; exact R.sep
  own := fun q hq => R.own q (by rw [owns_set_same δ j e] at hq; exact hq)
  keep := fun a o h1 h2 h3 => by
    rw [upd_ne (fun z => ?_)]
    · exact R.keep a o h1 h2 h3
    · rcases R.own p (own_mem e) with q | q
      · exact h1 (by rw [z]; exact q)
      · exact q ⟨o, by rw [← z]; exact h2, h3⟩
  there := fun a h1 => nT_un (fun _ z => nomatch z) fun _ => R.there a h1
  gh := R.gh
  tab := tabs_upd R.tab (by rw [(R.oget e).2.2.choose_spec.1]; intro ps; simp) (by rw [(R.oget e).2.2.choose_spec.1]; intro q z; have z := Option.some.inj z; unfold LamX.CodeO at z; cases z)
end
end DL


set_option Elab.async false
set_option linter.all false
set_option maxRecDepth 100000
set_option autoImplicit true
namespace DL
open PySem PySem.Spec PyProof.Rows L2

/-! ### readings over data, and what they are as readings of the layer -/
abbrev XC := Addr → Ev → Prop
abbrev DE := XC → Ev → (D → Ev → Prop) → Prop
abbrev DF := XC → Ev → (List D → Ev → Prop) → Prop
abbrev DT := XC → Ev → (Bool → Ev → Prop) → Prop
section
variable (K : PySem.W.Frag) (T : List (Addr × Str)) (W : WX)
def XOk (F : Fm) (G : Hp) (σ : L2.St) (Xc : XC) : Prop := ∀ G' H' δ' C, Ex G G' → Rel K T F G' H' σ δ' → Xc C δ' → W (.ref C) none σ H'
def up (r : DE) : TE := fun σ H Q => ∃ F G δ Xc Qd, Rel K T F G H σ δ ∧ r Xc δ Qd ∧ XOk K T W F G σ Xc ∧ ∀ G' H' v d δ', Ex G G' → Rel K T F G' H' σ δ' → Rp K G' d v → Qd d δ' → Q v H'
def upT (r : DT) : TT := fun σ H Q => ∃ F G δ Xc Qd, Rel K T F G H σ δ ∧ r Xc δ Qd ∧ XOk K T W F G σ Xc ∧ ∀ G' H' b δ', Ex G G' → Rel K T F G' H' σ δ' → Qd b δ' → Q b H'
def upA (r : DF) : TA := fun σ H Q => ∃ F G δ Xc Qd, Rel K T F G H σ δ ∧ r Xc δ Qd ∧ XOk K T W F G σ Xc ∧ ∀ G' H' vs ds δ', Ex G G' → Rel K T F G' H' σ δ' → RpL K G' ds vs → Qd ds δ' → Q vs H'
/-- a new list, ours alone -/
def upF (r : DF) : TE := fun σ H Q => ∃ F G δ Xc Qd, Rel K T F G H σ δ ∧ r Xc δ Qd ∧ XOk K T W F G σ Xc ∧
  ∀ G' H' p us xs δ', Ex G G' → Rel K T F G' H' σ δ' → G' p = none → H' p = some (.lst us) → RpL K G' xs us → ¬ nT F.H0 p → p ∉ owns δ' → Qd xs δ' → Q (.ref p) H'
end
theorem PEi {X : Cx} {e : Expr} {t t' : TE} (h : PE X e t) (k : ∀ σ H Q, t' σ H Q → t σ H Q) : PE X e t' := ⟨fun pins s σ H Q I q => h.run pins s σ H Q I (k _ _ _ q)⟩
theorem PTi {X : Cx} {e : Expr} {t t' : TT} (h : PT X e t) (k : ∀ σ H Q, t' σ H Q → t σ H Q) : PT X e t' := ⟨fun pins s σ H Q I q => h.run pins s σ H Q I (k _ _ _ q)⟩
theorem PWi {X : Cx} {e : Expr} {t t' : TT} (h : PW X e t) (k : ∀ σ H Q, t' σ H Q → t σ H Q) : PW X e t' := ⟨fun wh pins s σ H Q I q => h.run wh pins s σ H Q I (k _ _ _ q)⟩
theorem PAi {X : Cx} {e : List Expr} {t t' : TA} (h : PA X e t) (k : ∀ σ H Q, t' σ H Q → t σ H Q) : PA X e t' := ⟨fun pos pins s σ H Q I q => h.run pos pins s σ H Q I (k _ _ _ q)⟩
section
variable {K : PySem.W.Frag} {W : WX} {F : Fm} {G G' H H' : Hp} {σ : L2.St} {δ : Ev}
theorem XOk.mono {Xc : XC} (h : XOk K T W F G σ Xc) (e : Ex G G') : XOk K T W F G' σ Xc := fun G'' H'' δ'' C a R q => h G'' H'' δ'' C (e.trans a) R q

/-! ### names, constants -/
def dC (d : D) : DE := fun _ δ Q => Q d δ
def dVar (i : Nat) : DE := fun _ δ Q => match δ[i]? with
  | some (.d x) => Q x δ
  | _ => False
end
section
variable {X : Cx} {W : WX}
theorem dx_var (i : Nat) {x : Str} {pos : Pos} (hN : X.N[i]? = some x := by rfl) (hv : Vis X.env.scope x := by first | exact Or.inl rfl | exact Or.inr (Or.inl rfl) | exact Or.inr (Or.inr rfl)) (hd : (x == ("__debug__" : Str)) = false := by decide)
    (hcd : (x == ("__classdict__" : Str)) = false := by decide) : PE X (.Name x pos) (up X.K T W (dVar i)) := PEi (pe_var hN hv hd hcd) fun σ H Q h => by
  obtain ⟨F, G, δ, Xc, Qd, R, hr, hx, k⟩ := h
  unfold dVar at hr
  split at hr
  · rename_i x hx'
    obtain ⟨v, h1, h2⟩ := R.dget hx'
    exact ⟨v, h1, k G H v x δ (Ex.refl G) R h2 hr⟩
  · exact hr.elim
theorem up_c {t : TE} {e : Expr} {v : V} {d : D} (h : PE X e (tC v)) (hd : ∀ G, Rp X.K G d v) : PE X e (up X.K T W (dC d)) := PEi h fun σ H Q h => by
  obtain ⟨F, G, δ, Xc, Qd, R, hr, hx, k⟩ := h
  exact k G H v d δ (Ex.refl G) R (hd G) hr
theorem dx_int {i j pos} : PE X (.Constant (.int i) j pos) (up X.K T W (dC (.int i))) := up_c (t := tC (.int i)) pe_int fun _ => rfl
theorem dx_bl {b j pos} : PE X (.Constant (.bool b) j pos) (up X.K T W (dC (.bl b))) := up_c (t := tC (.bl b)) pe_bl fun _ => rfl
theorem dx_non {j pos} : PE X (.Constant .none j pos) (up X.K T W (dC .non)) := up_c (t := tC .non) pe_non fun _ => rfl
theorem dx_str {x j pos} : PE X (.Constant (.str x) j pos) (up X.K T W (dC (.str x))) := up_c (t := tC (.str x)) pe_str fun _ => rfl
/-- a module's constant that holds an int -/
theorem dx_globI {x : Str} {i : Int} {pos : Pos} (hm : ∃ t, X.mg x = some (.int i t)) (hg : Gl X x := by rfl) (hd : (x == ("__debug__" : Str)) = false := by decide) : PE X (.Name x pos) (up X.K T W (dC (.int i))) :=
  up_c (t := tC (.int i)) (pe_glob (v := .int i) hg hm.choose_spec ⟨_, rfl⟩ hd) fun _ => rfl
end

/-! ### operators -/
def Leaf2 (K : PySem.W.Frag) (T : List (Addr × Str)) (rr : R2) (f : D → D → (D → Prop) → Prop) : Prop := ∀ F G H σ δ x y v w Qd (Q : VK), Rel K T F G H σ δ → Rp K G x v → Rp K G y w → f x y Qd →
  (∀ G' H' u z, Ex G G' → Rel K T F G' H' σ δ → Rp K G' z u → Qd z → Q u H') → rr v w H Q
def dBin (f : D → D → (D → Prop) → Prop) (ra rb : DE) : DE := fun Xc δ Q => ra Xc δ fun x δ1 => rb Xc δ1 fun y δ2 => f x y fun z => Q z δ2
section
variable {X : Cx} {W : WX} {a b : Expr} {ra rb : DE} {rr : R2} {f : D → D → (D → Prop) → Prop} {pos : Pos}
theorem up_bin (lf : Leaf2 X.K T rr f) : ∀ σ H Q, up X.K T W (dBin f ra rb) σ H Q → tOp rr (up X.K T W ra) (up X.K T W rb) σ H Q := fun σ H Q h => by
  obtain ⟨F, G, δ, Xc, Qd, R, hr, hx, k⟩ := h
  refine ⟨F, G, δ, Xc, _, R, hr, hx, fun G1 H1 v x δ1 e1 R1 p1 h1 => ?_⟩
  refine ⟨F, G1, δ1, Xc, _, R1, h1, hx.mono e1, fun G2 H2 w y δ2 e2 R2 p2 h2 => ?_⟩
  exact lf F G2 H2 σ δ2 x y v w _ Q R2 (Rp.mono e2 _ _ p1) p2 h2 fun G' H' u z e3 R3 p3 q => k G' H' u z δ2 ((e1.trans e2).trans e3) R3 p3 q
theorem dx_op {op : Operator} (ho : OpR X (binaryOp op) rr) (lf : Leaf2 X.K T rr f) (ha : PE X a (up X.K T W ra)) (hb : PE X b (up X.K T W rb)) : PE X (.BinOp a op b pos) (up X.K T W (dBin f ra rb)) := PEi (pe_op ho ha hb) (up_bin lf)
theorem dx_cmp {op : CmpOp} (ho : OpR X (compareOp op) rr) (lf : Leaf2 X.K T rr f) (ha : PE X a (up X.K T W ra)) (hb : PE X b (up X.K T W rb)) (hm : behindInMarks op b = false) : PE X (.Compare a [op] [b] pos) (up X.K T W (dBin f ra rb)) := PEi (pe_cmpR ho ha hb hm) (up_bin lf)
end

theorem Leaf2.or {K : PySem.W.Frag} {r r' : R2} {f g : D → D → (D → Prop) → Prop} (h : Leaf2 K T r f) (h' : Leaf2 K T r' g) : Leaf2 K T (fun x y H Q => r x y H Q ∨ r' x y H Q) (fun x y Q => f x y Q ∨ g x y Q) :=
  fun F G H σ δ x y v w Qd Q R px py hf k => hf.elim (fun q => .inl (h F G H σ δ x y v w Qd Q R px py q k)) fun q => .inr (h' F G H σ δ x y v w Qd Q R px py q k)
theorem Leaf2.imp {K : PySem.W.Frag} {r : R2} {f g : D → D → (D → Prop) → Prop} (h : Leaf2 K T r f) (k : ∀ x y Q, g x y Q → f x y Q) : Leaf2 K T r g :=
  fun F G H σ δ x y v w Qd Q R px py hf kk => h F G H σ δ x y v w Qd Q R px py (k _ _ _ hf) kk
/-- two ints to a value -/
def fI (C : Int → Int → Prop) (g : Int → Int → D) : D → D → (D → Prop) → Prop
  | .int i, .int j, Q => C i j ∧ Q (g i j)
  | _, _, _ => False
theorem lf_I {K : PySem.W.Frag} {C : Int → Int → Prop} {g : Int → Int → V} {g' : Int → Int → D} (hg : ∀ G i j, Rp K G (g' i j) (g i j)) : Leaf2 K T (rI C g) (fI C g') := fun F G H σ δ x y v w Qd Q R px py hf k => by
  cases x <;> cases y <;> first | exact hf.elim | skip
  exact ⟨_, _, px, py, hf.1, k G H _ _ (Ex.refl G) R (hg G _ _) hf.2⟩
theorem lf_I0 {K : PySem.W.Frag} {g : Int → Int → V} {g' : Int → Int → D} (hg : ∀ G i j, Rp K G (g' i j) (g i j)) : Leaf2 K T (rI0 g) (fI (fun _ _ => True) g') := fun F G H σ δ x y v w Qd Q R px py hf k => by
  cases x <;> cases y <;> first | exact hf.elim | skip
  exact ⟨_, _, px, py, k G H _ _ (Ex.refl G) R (hg G _ _) hf.2⟩
theorem lf_str {K : PySem.W.Frag} : Leaf2 K T (fun x y H Q => ∃ i j, x = .str i ∧ y = .str j ∧ i.length + j.length ≤ sizeLine ∧ Q (.str (i ++ j)) H) (fun x y Q => match x, y with | .str i, .str j => i.length + j.length ≤ sizeLine ∧ Q (.str (i ++ j)) | _, _ => False) :=
  fun F G H σ δ x y v w Qd Q R px py hf k => by
  cases x <;> cases y <;> first | exact hf.elim | skip
  exact ⟨_, _, px, py, hf.1, k G H _ (.str _) (Ex.refl G) R rfl hf.2⟩
theorem lf_tup {K : PySem.W.Frag} : Leaf2 K T (rCatA K) (fun x y Q => match x, y with | .tup xs, .tup ys => xs.length + ys.length ≤ sizeLine ∧ Q (.tup (xs ++ ys)) | _, _ => False) :=
  fun F G H σ δ x y v w Qd Q R px py hf k => by
  cases x <;> cases y <;> first | exact hf.elim | skip
  rename_i xs ys
  obtain ⟨a, us, rfl, h1, h2⟩ := px
  obtain ⟨b, ws, rfl, h3, h4⟩ := py
  obtain ⟨hz, hq⟩ := hf
  have l1 := h2.length
  have l2 := h4.length
  refine ⟨a, b, us, ws, rfl, rfl, ex_t R.ex h1, ex_t R.ex h3, by omega, fun e => ?_, fun _ e => ?_, fun _ _ p hp => ?_⟩
  · subst e
    have : xs = [] := List.length_eq_zero_iff.mp l1.symm
    subst this
    exact k G H _ (.tup ys) (Ex.refl G) R ⟨b, ws, rfl, h3, h4⟩ hq
  · subst e
    have : ys = [] := List.length_eq_zero_iff.mp l2.symm
    subst this
    rw [List.append_nil] at hq
    exact k G H _ (.tup xs) (Ex.refl G) R ⟨a, us, rfl, h1, h2⟩ hq
  · exact k _ _ _ (.tup (xs ++ ys)) (Ex.new (R.ex.back hp)) (R.alloc hp) ⟨p, _, rfl, .inl (.inl upd_same), RpL.mono (Ex.new (R.ex.back hp)) _ _ (h2.append h4)⟩ hq
/-- +, not of lists -/
def fAdd : D → D → (D → Prop) → Prop
  | .int i, .int j, Q => Q (.int (i + j))
  | .str i, .str j, Q => i.length + j.length ≤ sizeLine ∧ Q (.str (i ++ j))
  | .tup xs, .tup ys, Q => xs.length + ys.length ≤ sizeLine ∧ Q (.tup (xs ++ ys))
  | _, _, _ => False
def MulOk (i j : Int) : Prop := (-(2 ^ 64) < i ∧ i < 2 ^ 64) ∨ (-(2 ^ 64) < j ∧ j < 2 ^ 64) ∨ (i.natAbs < 2 ^ 400000 ∧ j.natAbs < 2 ^ 400000)
def fMul : D → D → (D → Prop) → Prop := fI MulOk fun i j => .int (i * j)
def DivOk (i j : Int) : Prop := j ≠ 0 ∧ (j.natAbs < 1073741824 ∨ (0 < j ∧ j.natAbs < 2 ^ 9000))
section
variable {X : Cx} {W : WX} {a b : Expr} {ra rb : DE} {pos : Pos}
theorem dx_add (ha : PE X a (up X.K T W ra)) (hb : PE X b (up X.K T W rb)) : PE X (.BinOp a .Add b pos) (up X.K T W (dBin fAdd ra rb)) :=
  dx_op (OpR.or op_add (OpR.or op_add_str op_catA)) (((lf_I0 (g' := fun i j => .int (i + j)) fun _ _ _ => rfl).or (lf_str.or lf_tup)).imp fun x y Q h => by
    cases x <;> cases y <;> first | exact h.elim | skip
    · exact .inl ⟨trivial, h⟩
    · exact .inr (.inl h)
    · exact .inr (.inr h)) ha hb
theorem dx_sub (ha : PE X a (up X.K T W ra)) (hb : PE X b (up X.K T W rb)) : PE X (.BinOp a .Sub b pos) (up X.K T W (dBin (fI (fun _ _ => True) fun i j => .int (i - j)) ra rb)) := dx_op op_sub (lf_I0 fun _ _ _ => rfl) ha hb
theorem dx_mul (ha : PE X a (up X.K T W ra)) (hb : PE X b (up X.K T W rb)) : PE X (.BinOp a .Mult b pos) (up X.K T W (dBin fMul ra rb)) := dx_op (OpR.or op_mul op_mulW) (((lf_I (C := CMul) (g' := fun i j => .int (i * j)) fun _ _ _ => rfl).or (lf_I (C := CMulW) (g' := fun i j => .int (i * j)) fun _ _ _ => rfl)).imp fun x y Q h => by
  cases x <;> cases y <;> first | exact h.elim | skip
  obtain ⟨hc, q⟩ := h
  rcases hc with h | h | ⟨h1, h2⟩
  · exact .inl ⟨.inl h, q⟩
  · exact .inl ⟨.inr h, q⟩
  · exact .inr ⟨wide_mul h1 h2 (by decide) (by decide) (by decide), q⟩) ha hb
theorem dx_mod (ha : PE X a (up X.K T W ra)) (hb : PE X b (up X.K T W rb)) : PE X (.BinOp a .Mod b pos) (up X.K T W (dBin (fI (fun _ j => j ≠ 0) fun i j => .int (i.fmod j)) ra rb)) := dx_op op_modN (lf_I fun _ _ _ => rfl) ha hb
theorem dx_div (ha : PE X a (up X.K T W ra)) (hb : PE X b (up X.K T W rb)) : PE X (.BinOp a .FloorDiv b pos) (up X.K T W (dBin (fI DivOk fun i j => .int (i.fdiv j)) ra rb)) :=
  dx_op (OpR.or op_fdivN op_fdivW) (((lf_I (C := CDivN) (g' := fun i j => .int (i.fdiv j)) fun _ _ _ => rfl).or (lf_I (C := CDivW) (g' := fun i j => .int (i / j)) fun _ _ _ => rfl)).imp fun x y Q h => by
    cases x <;> cases y <;> first | exact h.elim | skip
    obtain ⟨⟨h0, hc⟩, q⟩ := h
    rcases hc with h | ⟨h1, h2⟩
    · exact .inl ⟨⟨h0, h⟩, q⟩
    · refine .inr ⟨wide_div h1 h2 (by decide) (by decide), ?_⟩
      have q : Q (D.int (Int.fdiv _ _)) := q
      rw [Int.fdiv_eq_ediv_of_nonneg _ (Int.le_of_lt h1)] at q
      exact q) ha hb
theorem dx_pow (ha : PE X a (up X.K T W ra)) (hb : PE X b (up X.K T W rb)) : PE X (.BinOp a .Pow b pos) (up X.K T W (dBin (fI CPow fun i j => .int (i ^ j.toNat)) ra rb)) := dx_op op_pow (lf_I fun _ _ _ => rfl) ha hb
theorem dx_lt (ha : PE X a (up X.K T W ra)) (hb : PE X b (up X.K T W rb)) : PE X (.Compare a [.Lt] [b] pos) (up X.K T W (dBin (fI (fun _ _ => True) fun i j => .bl (decide (i < j))) ra rb)) := dx_cmp op_lt (lf_I0 fun _ _ _ => rfl) ha hb (nomark _)
theorem dx_le (ha : PE X a (up X.K T W ra)) (hb : PE X b (up X.K T W rb)) : PE X (.Compare a [.LtE] [b] pos) (up X.K T W (dBin (fI (fun _ _ => True) fun i j => .bl (decide (i ≤ j))) ra rb)) := dx_cmp op_le (lf_I0 fun _ _ _ => rfl) ha hb (nomark _)
theorem dx_gt (ha : PE X a (up X.K T W ra)) (hb : PE X b (up X.K T W rb)) : PE X (.Compare a [.Gt] [b] pos) (up X.K T W (dBin (fI (fun _ _ => True) fun i j => .bl (decide (j < i))) ra rb)) := dx_cmp op_gt (lf_I0 fun _ _ _ => rfl) ha hb (nomark _)
theorem dx_ge (ha : PE X a (up X.K T W ra)) (hb : PE X b (up X.K T W rb)) : PE X (.Compare a [.GtE] [b] pos) (up X.K T W (dBin (fI (fun _ _ => True) fun i j => .bl (decide (j ≤ i))) ra rb)) := dx_cmp op_ge (lf_I0 fun _ _ _ => rfl) ha hb (nomark _)
end
end DL


set_option Elab.async false
set_option linter.all false
set_option maxRecDepth 100000
set_option autoImplicit true
namespace DL
open PySem PySem.Spec PyProof.Rows L2

/-! ### == -/
mutual
def D.toPy : D → PyData
  | .non => .none
  | .bl b => .bool b
  | .int i => .int i
  | .str x => .str x
  | .lst xs => .list (toPyL xs)
  | .tup xs => .tuple (toPyL xs)
  | .sq _ => .dict []
  | .dic _ _ => .dict []
  | .opq _ => .dict []
def toPyL : List D → List PyData
  | [] => []
  | d :: ds => d.toPy :: toPyL ds
end
def okE (d : D) : Bool := SeqAt.shaped d.toPy
theorem okE_lay {d : D} (h : okE d = true) : d.toPy.canLay0 = true := SeqAt.canLay_of_shaped h
section
variable {K : PySem.W.Frag} {G H : Hp}
mutual
theorem dp_of (e : Ex G H) : ∀ (d : D) (v : V), d.toPy.canLay0 = true → Rp K G d v → Dp K H v d.toPy
  | .non, _, _, h => by
    subst h
    exact .non
  | .bl b, _, _, h => by
    subst h
    exact .bl b
  | .int i, _, _, h => by
    subst h
    exact .int i
  | .str x, _, _, h => by
    subst h
    exact .str x
  | .lst ds, v, c, h => by
    obtain ⟨a, xs, rfl, h1, h2⟩ := h
    exact .lst (ex_lt e h1) (dpl_of e ds xs (by simpa [D.toPy, PyData.canLay0] using c) h2)
  | .tup ds, v, c, h => by
    obtain ⟨a, xs, rfl, h1, h2⟩ := h
    exact .tup (ex_t e h1) (dpl_of e ds xs (by simpa [D.toPy, PyData.canLay0] using c) h2)
  | .sq _, _, c, _ => by simp [D.toPy, PyData.canLay0] at c
  | .dic _ _, _, c, _ => by simp [D.toPy, PyData.canLay0] at c
  | .opq _, _, c, _ => by simp [D.toPy, PyData.canLay0] at c
theorem dpl_of (e : Ex G H) : ∀ (ds : List D) (vs : List V), PyData.canLayAll0 (toPyL ds) = true → RpL K G ds vs → DpAll K H vs (toPyL ds)
  | [], vs, _, h => by
    rw [show vs = [] from h]
    exact .nil
  | d :: ds, vs, c, h => by
    obtain ⟨x, r, rfl, h1, h2⟩ := h
    have c : (PyData.canLay0 d.toPy && PyData.canLayAll0 (toPyL ds)) = true := by simpa [toPyL, PyData.canLayAll0] using c
    rw [Bool.and_eq_true] at c
    exact .cons (dp_of e d x c.1 h1) (dpl_of e ds r c.2 h2)
end
end
def fEq : D → D → (D → Prop) → Prop
  | .int i, .int j, Q => Q (.bl (decide (i = j)))
  | .str i, .str j, Q => Q (.bl (decide (i = j)))
  | .bl i, .bl j, Q => Q (.bl (decide (i = j)))
  | .non, .non, Q => Q (.bl true)
  | .non, .int _, Q => Q (.bl false)
  | .int _, .non, Q => Q (.bl false)
  | .non, .str _, Q => Q (.bl false)
  | .str _, .non, Q => Q (.bl false)
  | .non, .bl _, Q => Q (.bl false)
  | .bl _, .non, Q => Q (.bl false)
  | .int _, .str _, Q => Q (.bl false)
  | .str _, .int _, Q => Q (.bl false)
  | x, y, Q => okE x = true ∧ okE y = true ∧ Q (.bl (PyData.eqv x.toPy y.toPy))
def fNe : D → D → (D → Prop) → Prop := fun x y Q => fEq x y fun z => match z with
  | .bl b => Q (.bl (!b))
  | _ => False
theorem lf_eqs {K : PySem.W.Frag} : Leaf2 K T (fun x y H Q => rEq x y H Q ∨ rEqD K x y H Q) fEq := fun F G H σ δ x y v w Qd Q R px py hf k => by
  have deep : ∀ {x y : D}, Rp K G x v → Rp K G y w → okE x = true ∧ okE y = true ∧ Qd (.bl (PyData.eqv x.toPy y.toPy)) → rEq v w H Q ∨ rEqD K v w H Q := fun {x y} px py hf =>
    .inr ⟨_, _, dp_of R.ex x v (okE_lay hf.1) px, dp_of R.ex y w (okE_lay hf.2.1) py, hf.1, hf.2.1, k G H _ (.bl _) (Ex.refl G) R rfl hf.2.2⟩
  have sc : ∀ {b : Bool}, scal v w = true → decide (v = w) = b → Qd (.bl b) → rEq v w H Q ∨ rEqD K v w H Q := fun {b} h1 h2 q => .inl ⟨h1, by rw [h2]; exact k G H _ (.bl b) (Ex.refl G) R rfl q⟩
  cases x <;> cases y <;> first
    | exact deep px py hf
    | (obtain rfl := px
       obtain rfl := py
       refine sc rfl ?_ hf
       first | rfl | (simp <;> done) | (rw [decide_eq_decide]; simp))
theorem lf_nes {K : PySem.W.Frag} : Leaf2 K T (fun x y H Q => rNe x y H Q ∨ rNeD K x y H Q) fNe := fun F G H σ δ x y v w Qd Q R px py hf k => by
  have deep : ∀ {x y : D}, Rp K G x v → Rp K G y w → okE x = true ∧ okE y = true ∧ Qd (.bl (!PyData.eqv x.toPy y.toPy)) → rNe v w H Q ∨ rNeD K v w H Q := fun {x y} px py hf =>
    .inr ⟨_, _, dp_of R.ex x v (okE_lay hf.1) px, dp_of R.ex y w (okE_lay hf.2.1) py, hf.1, hf.2.1, k G H _ (.bl _) (Ex.refl G) R rfl hf.2.2⟩
  have sc : ∀ {b : Bool}, scal v w = true → decide (v = w) = b → Qd (.bl (!b)) → rNe v w H Q ∨ rNeD K v w H Q := fun {b} h1 h2 q => .inl ⟨h1, by rw [h2]; exact k G H _ (.bl (!b)) (Ex.refl G) R rfl q⟩
  cases x <;> cases y <;> first
    | exact deep px py hf
    | (obtain rfl := px
       obtain rfl := py
       refine sc rfl ?_ hf
       first | rfl | (simp <;> done) | (rw [decide_eq_decide]; simp))
/-! ### is -/
def isNon : D → Bool
  | .non => true
  | _ => false
def fIs : D → D → (D → Prop) → Prop
  | .bl a, .bl b, Q => Q (.bl (decide (a = b)))
  | .opq _, _, _ => False
  | x, .non, Q => Q (.bl (isNon x))
  | _, _, _ => False
def fIsnt : D → D → (D → Prop) → Prop
  | .bl a, .bl b, Q => Q (.bl (!decide (a = b)))
  | .opq _, _, _ => False
  | x, .non, Q => Q (.bl (!isNon x))
  | _, _, _ => False
theorem lf_is {K : PySem.W.Frag} : Leaf2 K T (fun x y H Q => (y = .non ∧ Q (.bl (decide (x = .non))) H) ∨ rIsB x y H Q) fIs := fun F G H σ δ x y v w Qd Q R px py hf k => by
  have nn : ∀ {b : Bool}, w = .non → decide (v = .non) = b → Qd (.bl b) → (w = .non ∧ Q (.bl (decide (v = .non))) H) ∨ rIsB v w H Q := fun {b} h1 h2 q => .inl ⟨h1, by rw [h2]; exact k G H _ (.bl b) (Ex.refl G) R rfl q⟩
  cases x <;> cases y <;> first
    | exact hf.elim
    | exact .inr ⟨_, _, px, py, k G H _ (.bl _) (Ex.refl G) R rfl hf⟩
    | (refine nn py ?_ hf
       first
         | (obtain rfl := px; rfl)
         | (obtain ⟨a, us, rfl, _⟩ := px; rfl)
         | (obtain ⟨a, o, us, rfl, _⟩ := px; rfl))
theorem lf_isnt {K : PySem.W.Frag} : Leaf2 K T (fun x y H Q => (y = .non ∧ Q (.bl (!decide (x = .non))) H) ∨ rNotB x y H Q) fIsnt := fun F G H σ δ x y v w Qd Q R px py hf k => by
  have nn : ∀ {b : Bool}, w = .non → decide (v = .non) = b → Qd (.bl (!b)) → (w = .non ∧ Q (.bl (!decide (v = .non))) H) ∨ rNotB v w H Q := fun {b} h1 h2 q => .inl ⟨h1, by rw [h2]; exact k G H _ (.bl (!b)) (Ex.refl G) R rfl q⟩
  cases x <;> cases y <;> first
    | exact hf.elim
    | exact .inr ⟨_, _, px, py, k G H _ (.bl _) (Ex.refl G) R rfl hf⟩
    | (refine nn py ?_ hf
       first
         | (obtain rfl := px; rfl)
         | (obtain ⟨a, us, rfl, _⟩ := px; rfl)
         | (obtain ⟨a, o, us, rfl, _⟩ := px; rfl))
/-! ### in, of flat things -/
def flatD : D → Bool
  | .non => true
  | .bl _ => true
  | .int _ => true
  | .str _ => true
  | _ => false
def eqF : D → D → Bool
  | .non, .non => true
  | .bl a, .bl b => a == b
  | .bl a, .int b => (if a then 1 else 0) == b
  | .int a, .bl b => a == (if b then 1 else 0)
  | .int a, .int b => a == b
  | .str a, .str b => a == b
  | _, _ => false
def inD (x : D) (xs : List D) : Bool := xs.any fun y => eqF y x
def items? : D → Option (List D)
  | .lst xs => some xs
  | .tup xs => some xs
  | _ => none
def fIn (neg : Bool) : D → D → (D → Prop) → Prop := fun x y Q => match y with
  | .lst ys => flatD x = true ∧ ys.all flatD = true ∧ Q (.bl (if neg then !inD x ys else inD x ys))
  | .tup ys => flatD x = true ∧ ys.all flatD = true ∧ Q (.bl (if neg then !inD x ys else inD x ys))
  | _ => False
section
variable {K : PySem.W.Frag} {G H : Hp}
theorem flat_of {x : D} {v : V} (h : flatD x = true) (p : Rp K G x v) : flatV v = true := by
  cases x <;> first | (obtain rfl := p; rfl) | exact absurd (show false = true from h) (by decide)
theorem eqF_of {x y : D} {v w : V} (hx : flatD x = true) (hy : flatD y = true) (p : Rp K G x v) (q : Rp K G y w) : eqV v w = eqF x y := by
  cases x <;> first | exact absurd (show false = true from hx) (by decide) | skip
  all_goals cases y <;> first | exact absurd (show false = true from hy) (by decide) | (obtain rfl := p; obtain rfl := q; rfl)
theorem flats_of : ∀ {xs : List D} {vs : List V}, xs.all flatD = true → RpL K G xs vs → vs.all flatV = true
  | [], _, _, p => by rw [show _ = _ from p]; rfl
  | d :: ds, _, h, p => by
    obtain ⟨x, r, rfl, h1, h2⟩ := p
    rw [List.all_cons, Bool.and_eq_true] at h ⊢
    exact ⟨flat_of h.1 h1, flats_of h.2 h2⟩
theorem inD_of {x : D} {v : V} (hx : flatD x = true) (p : Rp K G x v) : ∀ {xs : List D} {vs : List V}, xs.all flatD = true → RpL K G xs vs → inV v vs = inD x xs
  | [], _, _, q => by rw [show _ = _ from q]; rfl
  | d :: ds, _, h, q => by
    obtain ⟨y, r, rfl, h1, h2⟩ := q
    rw [List.all_cons, Bool.and_eq_true] at h
    have ih := inD_of hx p h.2 h2
    unfold inV inD at ih ⊢
    rw [List.any_cons, List.any_cons, ih, eqF_of h.1 hx h1 p]
end
theorem lf_in {K : PySem.W.Frag} {neg : Bool} : Leaf2 K T (rIn K neg) (fIn neg) := fun F G H σ δ x y v w Qd Q R px py hf k => by
  cases y <;> first | exact hf.elim | skip
  · obtain ⟨a, us, rfl, h1, h2⟩ := py
    obtain ⟨f1, f2, q⟩ := hf
    refine ⟨a, us, rfl, .inl (ex_lt R.ex h1), flat_of f1 px, flats_of f2 h2, ?_⟩
    rw [inD_of f1 px f2 h2]
    exact k G H _ (.bl _) (Ex.refl G) R rfl q
  · obtain ⟨a, us, rfl, h1, h2⟩ := py
    obtain ⟨f1, f2, q⟩ := hf
    refine ⟨a, us, rfl, .inr (ex_t R.ex h1), flat_of f1 px, flats_of f2 h2, ?_⟩
    rw [inD_of f1 px f2 h2]
    exact k G H _ (.bl _) (Ex.refl G) R rfl q
/-! ### items -/
def fIx : D → D → (D → Prop) → Prop
  | .lst xs, .int i, Q => ∃ x, atI xs i = some x ∧ Q x
  | .tup xs, .int i, Q => ∃ x, atI xs i = some x ∧ Q x
  | .str z, .int i, Q => ∃ c, z.length ≤ sizeLine ∧ atI z.cps.toList i = some c ∧ Q (.str ⟨#[c]⟩)
  | _, _, _ => False
theorem RpL.at {K : PySem.W.Frag} {G : Hp} {xs : List D} {vs : List V} {i : Int} {x : D} (h : RpL K G xs vs) (e : atI xs i = some x) : ∃ v, atI vs i = some v ∧ Rp K G x v := by
  unfold atI at e ⊢
  rw [h.length]
  cases q : ixN xs.length i with
  | none => rw [q] at e; cases e
  | some j =>
    rw [q] at e
    exact h.get (show xs[j]? = some x from e)
theorem lf_ix {K : PySem.W.Frag} : Leaf2 K T (rIx K) fIx := fun F G H σ δ x y v w Qd Q R px py hf k => by
  cases x <;> cases y <;> first | exact hf.elim | skip
  · obtain ⟨z, h1, h2, h3⟩ := hf
    obtain rfl := px
    obtain rfl := py
    exact .inr (.inr ⟨_, _, z, rfl, rfl, h1, h2, k G H _ (.str _) (Ex.refl G) R rfl h3⟩)
  · obtain ⟨a, us, rfl, h1, h2⟩ := px
    obtain ⟨z, e, q⟩ := hf
    obtain ⟨u, hu, pu⟩ := h2.at e
    exact .inl ⟨a, us, _, u, rfl, py, ex_lt R.ex h1, hu, k G H _ z (Ex.refl G) R pu q⟩
  · obtain ⟨a, us, rfl, h1, h2⟩ := px
    obtain ⟨z, e, q⟩ := hf
    obtain ⟨u, hu, pu⟩ := h2.at e
    exact .inr (.inl ⟨a, us, _, u, rfl, py, ex_t R.ex h1, hu, k G H _ z (Ex.refl G) R pu q⟩)
section
variable {X : Cx} {W : WX} {a b c : Expr} {ra rb rc : DE} {pos : Pos}
theorem dx_eq (hu : X.A.units + 64 < cLine) (ha : PE X a (up X.K T W ra)) (hb : PE X b (up X.K T W rb)) : PE X (.Compare a [.Eq] [b] pos) (up X.K T W (dBin fEq ra rb)) := dx_cmp (OpR.or op_eq (op_eqD hu)) lf_eqs ha hb (nomark _)
theorem dx_ne (hu : X.A.units + 64 < cLine) (ha : PE X a (up X.K T W ra)) (hb : PE X b (up X.K T W rb)) : PE X (.Compare a [.NotEq] [b] pos) (up X.K T W (dBin fNe ra rb)) := dx_cmp (OpR.or op_ne (op_neD hu)) lf_nes ha hb (nomark _)
theorem dx_is (ha : PE X a (up X.K T W ra)) (hb : PE X b (up X.K T W rb)) : PE X (.Compare a [.Is] [b] pos) (up X.K T W (dBin fIs ra rb)) := dx_cmp (OpR.or op_isN op_isBl) lf_is ha hb (nomark _)
theorem dx_isnt (ha : PE X a (up X.K T W ra)) (hb : PE X b (up X.K T W rb)) : PE X (.Compare a [.IsNot] [b] pos) (up X.K T W (dBin fIsnt ra rb)) := dx_cmp (OpR.or op_notN op_notBl) lf_isnt ha hb (nomark _)
theorem dx_in (ha : PE X a (up X.K T W ra)) (hb : PE X b (up X.K T W rb)) (hm : behindInMarks .In b = false := by rfl) : PE X (.Compare a [.In] [b] pos) (up X.K T W (dBin (fIn false) ra rb)) := dx_cmp op_in_seq lf_in ha hb hm
theorem dx_notin (ha : PE X a (up X.K T W ra)) (hb : PE X b (up X.K T W rb)) (hm : behindInMarks .NotIn b = false := by rfl) : PE X (.Compare a [.NotIn] [b] pos) (up X.K T W (dBin (fIn true) ra rb)) := dx_cmp op_notIn_seq lf_in ha hb hm
theorem dx_ix (ha : PE X a (up X.K T W ra)) (hb : PE X b (up X.K T W rb)) (hs : PlainIx b := by exact fun _ _ => rfl) : PE X (.Subscript a b pos) (up X.K T W (dBin fIx ra rb)) := PEi (pe_ix ix_seq ha hb hs) (up_bin lf_ix)
/-! ### chains, truth, and, or, not, if -/
def dChain (f g : D → D → (D → Prop) → Prop) (ra rb rc : DE) : DE := fun Xc δ Q => ra Xc δ fun x δ1 => rb Xc δ1 fun y δ2 => f x y fun z => match z with
  | .bl b => (b = true → rc Xc δ2 fun w δ3 => g y w fun z => Q z δ3) ∧ (b = false → Q (.bl false) δ2)
  | _ => False
theorem up_chain {r r' : R2} {f g : D → D → (D → Prop) → Prop} (lf : Leaf2 X.K T r f) (lg : Leaf2 X.K T r' g) : ∀ σ H Q, up X.K T W (dChain f g ra rb rc) σ H Q → tChain r r' (up X.K T W ra) (up X.K T W rb) (up X.K T W rc) σ H Q := fun σ H Q h => by
  obtain ⟨F, G, δ, Xc, Qd, R, hr, hx, k⟩ := h
  refine ⟨F, G, δ, Xc, _, R, hr, hx, fun G1 H1 v x δ1 e1 R1 p1 h1 => ?_⟩
  refine ⟨F, G1, δ1, Xc, _, R1, h1, hx.mono e1, fun G2 H2 w y δ2 e2 R2 p2 h2 => ?_⟩
  refine lf F G2 H2 σ δ2 x y v w _ _ R2 (Rp.mono e2 _ _ p1) p2 h2 fun G3 H3 u z e3 R3 p3 q => ?_
  cases z with
  | bl b =>
    obtain rfl := p3
    refine ⟨b, rfl, ?_⟩
    cases b with
    | true =>
      refine iteT ⟨F, G3, δ2, Xc, _, R3, q.1 rfl, hx.mono ((e1.trans e2).trans e3), fun G4 H4 w' y' δ3 e4 R4 p4 h4 => ?_⟩
      exact lg F G4 H4 σ δ3 y y' w w' _ Q R4 (Rp.mono (e3.trans e4) _ _ p2) p4 h4 fun G' H' u z e5 R5 p5 q5 => k G' H' u z δ3 ((((e1.trans e2).trans e3).trans e4).trans e5) R5 p5 q5
    | false => exact iteF (k G3 H3 _ (.bl false) δ2 ((e1.trans e2).trans e3) R3 rfl (q.2 rfl))
  | _ => exact q.elim
theorem dx_chain {op op' : CmpOp} {r r' : R2} {f g : D → D → (D → Prop) → Prop} (ho : OpR X (compareOp op) r) (lf : Leaf2 X.K T r f) (ho' : OpR X (compareOp op') r') (lg : Leaf2 X.K T r' g) (ha : PE X a (up X.K T W ra)) (hb : PE X b (up X.K T W rb)) (hc : PE X c (up X.K T W rc))
    (hm : lastMarks [op, op'] [b, c] = false := by with_unfolding_all rfl) : PE X (.Compare a [op, op'] [b, c] pos) (up X.K T W (dChain f g ra rb rc)) := PEi (pe_chain ho ho' ha hb hc hm) (up_chain lf lg)
abbrev fLt := fI (fun _ _ => True) fun i j => .bl (decide (i < j))
abbrev fLe := fI (fun _ _ => True) fun i j => .bl (decide (i ≤ j))
theorem dx_le_le (ha : PE X a (up X.K T W ra)) (hb : PE X b (up X.K T W rb)) (hc : PE X c (up X.K T W rc)) (hm : lastMarks [.LtE, .LtE] [b, c] = false := by with_unfolding_all rfl) : PE X (.Compare a [.LtE, .LtE] [b, c] pos) (up X.K T W (dChain fLe fLe ra rb rc)) :=
  dx_chain op_le (lf_I0 fun _ _ _ => rfl) op_le (lf_I0 fun _ _ _ => rfl) ha hb hc hm
theorem dx_le_lt (ha : PE X a (up X.K T W ra)) (hb : PE X b (up X.K T W rb)) (hc : PE X c (up X.K T W rc)) (hm : lastMarks [.LtE, .Lt] [b, c] = false := by with_unfolding_all rfl) : PE X (.Compare a [.LtE, .Lt] [b, c] pos) (up X.K T W (dChain fLe fLt ra rb rc)) :=
  dx_chain op_le (lf_I0 fun _ _ _ => rfl) op_lt (lf_I0 fun _ _ _ => rfl) ha hb hc hm
theorem dx_lt_le (ha : PE X a (up X.K T W ra)) (hb : PE X b (up X.K T W rb)) (hc : PE X c (up X.K T W rc)) (hm : lastMarks [.Lt, .LtE] [b, c] = false := by with_unfolding_all rfl) : PE X (.Compare a [.Lt, .LtE] [b, c] pos) (up X.K T W (dChain fLt fLe ra rb rc)) :=
  dx_chain op_lt (lf_I0 fun _ _ _ => rfl) op_le (lf_I0 fun _ _ _ => rfl) ha hb hc hm
theorem dx_lt_lt (ha : PE X a (up X.K T W ra)) (hb : PE X b (up X.K T W rb)) (hc : PE X c (up X.K T W rc)) (hm : lastMarks [.Lt, .Lt] [b, c] = false := by with_unfolding_all rfl) : PE X (.Compare a [.Lt, .Lt] [b, c] pos) (up X.K T W (dChain fLt fLt ra rb rc)) :=
  dx_chain op_lt (lf_I0 fun _ _ _ => rfl) op_lt (lf_I0 fun _ _ _ => rfl) ha hb hc hm
/-- an expression that gives a truth, as a test -/
def dB (r : DE) : DT := fun Xc δ Q => r Xc δ fun d δ' => match d with
  | .bl b => Q b δ'
  | _ => False
theorem dt_val (h : PE X a (up X.K T W ra)) (he : ∀ whole, isTrue a X.env whole = (do let v ← whole; standAt a.pos; holding [v] (truthy v)) := by intro _; rfl) : PT X a (upT X.K T W (dB ra)) := PTi (pt_val h he) fun σ H Q h => by
  obtain ⟨F, G, δ, Xc, Qd, R, hr, hx, k⟩ := h
  refine ⟨F, G, δ, Xc, _, R, hr, hx, fun G1 H1 v x δ1 e1 R1 p1 h1 => ?_⟩
  cases x with
  | bl b => exact ⟨b, p1, k G1 H1 b δ1 e1 R1 h1⟩
  | _ => exact h1.elim
theorem up_tst {t : TT} {e : Expr} (h : PT X e (tTest (up X.K T W ra))) : PT X e (upT X.K T W (dB ra)) := PTi h fun σ H Q h => by
  obtain ⟨F, G, δ, Xc, Qd, R, hr, hx, k⟩ := h
  refine ⟨F, G, δ, Xc, _, R, hr, hx, fun G1 H1 v x δ1 e1 R1 p1 h1 => ?_⟩
  cases x with
  | bl b => exact ⟨b, p1, k G1 H1 b δ1 e1 R1 h1⟩
  | _ => exact h1.elim
theorem PTtest {t t' : TE} (h : PT X a (tTest t)) (k : ∀ σ H Q, t' σ H Q → t σ H Q) : PT X a (tTest t') := PTi h fun σ H Q q => k _ _ _ q
theorem dt_cmp {op : CmpOp} {rr : R2} {f : D → D → (D → Prop) → Prop} (ho : OpR X (compareOp op) rr) (lf : Leaf2 X.K T rr f) (ha : PE X a (up X.K T W ra)) (hb : PE X b (up X.K T W rb)) (hm : behindInMarks op b = false) :
    PT X (.Compare a [op] [b] pos) (upT X.K T W (dB (dBin f ra rb))) := up_tst (t := fun _ _ _ => True) (PTtest (pt_cmpR ho ha hb hm) (up_bin lf))
theorem dt_chain {op op' : CmpOp} {r r' : R2} {f g : D → D → (D → Prop) → Prop} (ho : OpR X (compareOp op) r) (lf : Leaf2 X.K T r f) (ho' : OpR X (compareOp op') r') (lg : Leaf2 X.K T r' g) (ha : PE X a (up X.K T W ra)) (hb : PE X b (up X.K T W rb)) (hc : PE X c (up X.K T W rc))
    (hm : lastMarks [op, op'] [b, c] = false := by with_unfolding_all rfl) : PT X (.Compare a [op, op'] [b, c] pos) (upT X.K T W (dB (dChain f g ra rb rc))) := up_tst (t := fun _ _ _ => True) (PTtest (pt_chain ho ho' ha hb hc hm) (up_chain lf lg))
def dAndT (r s : DT) : DT := fun Xc δ Q => r Xc δ fun b δ' => (b = true → s Xc δ' Q) ∧ (b = false → Q false δ')
def dOrT (r s : DT) : DT := fun Xc δ Q => r Xc δ fun b δ' => (b = true → Q true δ') ∧ (b = false → s Xc δ' Q)
def dNotT (r : DT) : DT := fun Xc δ Q => r Xc δ fun b δ' => Q (!b) δ'
section
variable {tA tB : DT} {rest : List Expr}
theorem dw_and1 (ha : PT X a (upT X.K T W tA)) : PW X (.BoolOp .And [a] pos) (upT X.K T W tA) := pw_and1 ha
theorem dw_or1 (ha : PT X a (upT X.K T W tA)) : PW X (.BoolOp .Or [a] pos) (upT X.K T W tA) := pw_or1 ha
theorem dw_and (ha : PT X a (upT X.K T W tA)) (hb : PW X (.BoolOp .And (b :: rest) pos) (upT X.K T W tB)) : PW X (.BoolOp .And (a :: b :: rest) pos) (upT X.K T W (dAndT tA tB)) := PWi (pw_and ha hb) fun σ H Q h => by
  obtain ⟨F, G, δ, Xc, Qd, R, hr, hx, k⟩ := h
  refine ⟨F, G, δ, Xc, _, R, hr, hx, fun G1 H1 b δ1 e1 R1 h1 => ?_⟩
  cases b with
  | true => exact iteT ⟨F, G1, δ1, Xc, Qd, R1, h1.1 rfl, hx.mono e1, fun G2 H2 b δ2 e2 R2 h2 => k G2 H2 b δ2 (e1.trans e2) R2 h2⟩
  | false => exact iteF (k G1 H1 false δ1 e1 R1 (h1.2 rfl))
theorem dw_or (ha : PT X a (upT X.K T W tA)) (hb : PW X (.BoolOp .Or (b :: rest) pos) (upT X.K T W tB)) : PW X (.BoolOp .Or (a :: b :: rest) pos) (upT X.K T W (dOrT tA tB)) := PWi (pw_or ha hb) fun σ H Q h => by
  obtain ⟨F, G, δ, Xc, Qd, R, hr, hx, k⟩ := h
  refine ⟨F, G, δ, Xc, _, R, hr, hx, fun G1 H1 b δ1 e1 R1 h1 => ?_⟩
  cases b with
  | true => exact iteT (k G1 H1 true δ1 e1 R1 (h1.1 rfl))
  | false => exact iteF ⟨F, G1, δ1, Xc, Qd, R1, h1.2 rfl, hx.mono e1, fun G2 H2 b δ2 e2 R2 h2 => k G2 H2 b δ2 (e1.trans e2) R2 h2⟩
theorem dt_not (ha : PT X a (upT X.K T W tA)) : PT X (.UnaryOp .Not a pos) (upT X.K T W (dNotT tA)) := PTi (pt_not ha) fun σ H Q h => by
  obtain ⟨F, G, δ, Xc, Qd, R, hr, hx, k⟩ := h
  exact ⟨F, G, δ, Xc, _, R, hr, hx, fun G1 H1 b δ1 e1 R1 h1 => k G1 H1 (!b) δ1 e1 R1 h1⟩
end
/-! as values -/
def dAnd (ra rb : DE) : DE := fun Xc δ Q => ra Xc δ fun x δ1 => match x with
  | .bl b => (b = true → rb Xc δ1 Q) ∧ (b = false → Q (.bl false) δ1)
  | _ => False
def dOr (ra rb : DE) : DE := fun Xc δ Q => ra Xc δ fun x δ1 => match x with
  | .bl b => (b = true → Q (.bl true) δ1) ∧ (b = false → rb Xc δ1 Q)
  | _ => False
def dNot (ra : DE) : DE := fun Xc δ Q => ra Xc δ fun x δ1 => match x with
  | .bl b => Q (.bl (!b)) δ1
  | _ => False
def dIfE (t : DT) (ra rb : DE) : DE := fun Xc δ Q => t Xc δ fun b δ1 => (b = true → ra Xc δ1 Q) ∧ (b = false → rb Xc δ1 Q)
section
variable {rest : List Expr}
theorem dx_one {op} (h : PE X a (up X.K T W ra)) : PE X (.BoolOp op [a] pos) (up X.K T W ra) := pe_one h
theorem dx_and (ha : PE X a (up X.K T W ra)) (hb : PE X (.BoolOp .And (b :: rest) pos) (up X.K T W rb)) : PE X (.BoolOp .And (a :: b :: rest) pos) (up X.K T W (dAnd ra rb)) := PEi (pe_and ha hb) fun σ H Q h => by
  obtain ⟨F, G, δ, Xc, Qd, R, hr, hx, k⟩ := h
  refine ⟨F, G, δ, Xc, _, R, hr, hx, fun G1 H1 v x δ1 e1 R1 p1 h1 => ?_⟩
  cases x with
  | bl b =>
    cases b with
    | true => exact ⟨true, p1, iteT ⟨F, G1, δ1, Xc, Qd, R1, h1.1 rfl, hx.mono e1, fun G2 H2 b d δ2 e2 R2 p2 h2 => k G2 H2 b d δ2 (e1.trans e2) R2 p2 h2⟩⟩
    | false => exact ⟨false, p1, iteF (k G1 H1 _ (.bl false) δ1 e1 R1 rfl (h1.2 rfl))⟩
  | _ => exact h1.elim
theorem dx_or (ha : PE X a (up X.K T W ra)) (hb : PE X (.BoolOp .Or (b :: rest) pos) (up X.K T W rb)) : PE X (.BoolOp .Or (a :: b :: rest) pos) (up X.K T W (dOr ra rb)) := PEi (pe_or ha hb) fun σ H Q h => by
  obtain ⟨F, G, δ, Xc, Qd, R, hr, hx, k⟩ := h
  refine ⟨F, G, δ, Xc, _, R, hr, hx, fun G1 H1 v x δ1 e1 R1 p1 h1 => ?_⟩
  cases x with
  | bl b =>
    cases b with
    | true => exact ⟨true, p1, iteT (k G1 H1 _ (.bl true) δ1 e1 R1 rfl (h1.1 rfl))⟩
    | false => exact ⟨false, p1, iteF ⟨F, G1, δ1, Xc, Qd, R1, h1.2 rfl, hx.mono e1, fun G2 H2 b d δ2 e2 R2 p2 h2 => k G2 H2 b d δ2 (e1.trans e2) R2 p2 h2⟩⟩
  | _ => exact h1.elim
theorem dx_not (ha : PE X a (up X.K T W ra)) : PE X (.UnaryOp .Not a pos) (up X.K T W (dNot ra)) := PEi (pe_not ha) fun σ H Q h => by
  obtain ⟨F, G, δ, Xc, Qd, R, hr, hx, k⟩ := h
  refine ⟨F, G, δ, Xc, _, R, hr, hx, fun G1 H1 v x δ1 e1 R1 p1 h1 => ?_⟩
  cases x with
  | bl b => exact ⟨b, p1, k G1 H1 _ (.bl (!b)) δ1 e1 R1 rfl h1⟩
  | _ => exact h1.elim
theorem dx_ifExp {tA : DT} (hc : PT X c (upT X.K T W tA)) (ha : PE X a (up X.K T W ra)) (hb : PE X b (up X.K T W rb)) : PE X (.IfExp c a b pos) (up X.K T W (dIfE tA ra rb)) := PEi (pe_ifExp hc ha hb) fun σ H Q h => by
  obtain ⟨F, G, δ, Xc, Qd, R, hr, hx, k⟩ := h
  refine ⟨F, G, δ, Xc, _, R, hr, hx, fun G1 H1 b δ1 e1 R1 h1 => ?_⟩
  cases b with
  | true => exact iteT ⟨F, G1, δ1, Xc, Qd, R1, h1.1 rfl, hx.mono e1, fun G2 H2 b d δ2 e2 R2 p2 h2 => k G2 H2 b d δ2 (e1.trans e2) R2 p2 h2⟩
  | false => exact iteF ⟨F, G1, δ1, Xc, Qd, R1, h1.2 rfl, hx.mono e1, fun G2 H2 b d δ2 e2 R2 p2 h2 => k G2 H2 b d δ2 (e1.trans e2) R2 p2 h2⟩
def dNeg (ra : DE) : DE := fun Xc δ Q => ra Xc δ fun x δ1 => match x with
  | .int i => Q (.int (-i)) δ1
  | _ => False
theorem dx_neg (ha : PE X a (up X.K T W ra)) : PE X (.UnaryOp .USub a pos) (up X.K T W (dNeg ra)) := PEi (pe_un un_neg ha) fun σ H Q h => by
  obtain ⟨F, G, δ, Xc, Qd, R, hr, hx, k⟩ := h
  refine ⟨F, G, δ, Xc, _, R, hr, hx, fun G1 H1 v x δ1 e1 R1 p1 h1 => ?_⟩
  cases x with
  | int i => exact ⟨i, p1, k G1 H1 _ (.int (-i)) δ1 e1 R1 rfl h1⟩
  | _ => exact h1.elim
end
end
end DL


set_option Elab.async false
set_option linter.all false
set_option maxRecDepth 100000
set_option autoImplicit true
namespace DL
open PySem PySem.Spec PyProof.Rows L2

/-! ### arguments, displays -/
def aNil : DF := fun _ δ Q => Q [] δ
def aCons (r : DE) (s : DF) : DF := fun Xc δ Q => r Xc δ fun x δ1 => s Xc δ1 fun xs δ2 => Q (x :: xs) δ2
section
variable {X : Cx} {W : WX} {e : Expr} {es : List Expr} {r : DE} {s : DF} {pos : Pos}
theorem da_nil : PA X [] (upA X.K T W aNil) := PAi pa_nil fun σ H Q h => by
  obtain ⟨F, G, δ, Xc, Qd, R, hr, hx, k⟩ := h
  exact k G H [] [] δ (Ex.refl G) R rfl hr
theorem da_cons (ha : PE X e (up X.K T W r)) (hr : PA X es (upA X.K T W s)) (hs : starEach (e :: es) X.env = (false, eval e X.env) :: starEach es X.env := by rfl) : PA X (e :: es) (upA X.K T W (aCons r s)) := PAi (pa_cons ha hr hs) fun σ H Q h => by
  obtain ⟨F, G, δ, Xc, Qd, R, hr, hx, k⟩ := h
  refine ⟨F, G, δ, Xc, _, R, hr, hx, fun G1 H1 v x δ1 e1 R1 p1 h1 => ?_⟩
  exact ⟨F, G1, δ1, Xc, _, R1, h1, hx.mono e1, fun G2 H2 vs ds δ2 e2 R2 p2 h2 => k G2 H2 (v :: vs) (x :: ds) δ2 (e1.trans e2) R2 ⟨v, vs, rfl, Rp.mono e2 _ _ p1, p2⟩ h2⟩
def dTup (s : DF) : DE := fun Xc δ Q => s Xc δ fun xs δ1 => xs.length ≤ sizeLine ∧ Q (.tup xs) δ1
theorem dx_tup {k1} (h : PA X es (upA X.K T W s)) : PE X (.Tuple es k1 pos) (up X.K T W (dTup s)) := PEi (pe_tup h) fun σ H Q h => by
  obtain ⟨F, G, δ, Xc, Qd, R, hr, hx, k⟩ := h
  refine ⟨F, G, δ, Xc, _, R, hr, hx, fun G1 H1 vs ds δ1 e1 R1 p1 h1 => ⟨?_, fun p hp => ?_⟩⟩
  · rw [p1.length]
    exact h1.1
  · exact k _ _ _ (.tup ds) δ1 (e1.trans (Ex.new (R1.ex.back hp))) (R1.alloc hp) ⟨p, vs, rfl, .inl (.inl upd_same), RpL.mono (Ex.new (R1.ex.back hp)) _ _ p1⟩ h1.2
/-- from a new list at a free place to upF's wish -/
theorem newF {F : Fm} {G G1 H1 : Hp} {σ : L2.St} {δ1 : Ev} {us : List V} {ds : List D} {Qd : List D → Ev → Prop} {Q : VK} {K : PySem.W.Frag} (e1 : Ex G G1) (R1 : Rel K T F G1 H1 σ δ1) (p1 : RpL K G1 ds us) (h1 : Qd ds δ1)
    (k : ∀ G' H' p us xs δ', Ex G G' → Rel K T F G' H' σ δ' → G' p = none → H' p = some (.lst us) → RpL K G' xs us → ¬ nT F.H0 p → p ∉ owns δ' → Qd xs δ' → Q (.ref p) H') : ∀ p, H1 p = none → Q (.ref p) (upd H1 p (.lst us)) := fun p hp => by
  obtain ⟨z1, z2⟩ := R1.fresh_own (nT_no hp)
  exact k G1 _ p us ds δ1 e1 (R1.temp hp) (R1.ex.back hp) upd_same p1 z1 z2 h1
def fLst (s : DF) : DF := fun Xc δ Q => s Xc δ fun xs δ1 => xs.length ≤ sizeLine ∧ Q xs δ1
theorem df_lst (h : PA X es (upA X.K T W s)) : PE X (.List es pos) (upF X.K T W (fLst s)) := PEi (pe_lst h) fun σ H Q h => by
  obtain ⟨F, G, δ, Xc, Qd, R, hr, hx, k⟩ := h
  refine ⟨F, G, δ, Xc, _, R, hr, hx, fun G1 H1 vs ds δ1 e1 R1 p1 h1 => ⟨?_, newF e1 R1 p1 h1.2 k⟩⟩
  rw [p1.length]
  exact h1.1
/-- a new list as data -/
def dF (r : DF) : DE := fun Xc δ Q => r Xc δ fun xs δ1 => Q (.lst xs) δ1
theorem frz1 {K : PySem.W.Frag} {F : Fm} {G H : Hp} {σ : L2.St} {δ : Ev} {p : Addr} {us : List V} (R : Rel K T F G H σ δ) (h1 : G p = none) (h2 : H p = some (.lst us)) (h3 : ¬ nT F.H0 p) (h4 : p ∉ owns δ) : Rel K T F (upd G p (.lst us)) H σ δ where
  ex := fun a o h => by
    by_cases z : a = p
    · rw [z, upd_same] at h
      rw [z, h2, ← h]
    · rw [upd_ne z] at h
      exact R.ex a o h
  sl := R.sl.mono (Ex.new h1) fun q hq o' _ a b => ⟨a, by rw [upd_ne (fun z => h4 (by rw [← z]; exact hq))]; exact b⟩
  sep := R.sep
  own := R.own
  keep := R.keep
  there := R.there
  tab := ⟨R.tab.1, noT_upd R.tab.2 fun _ z => nomatch z⟩
  gh := fun a a0 a1 a2 => R.gh a a0 a1 (by rwa [upd_ne (fun z => h3 (by rw [← z]; exact a1))] at a2)
theorem dx_f {r : DF} (h : PE X e (upF X.K T W r)) : PE X e (up X.K T W (dF r)) := PEi h fun σ H Q h => by
  obtain ⟨F, G, δ, Xc, Qd, R, hr, hx, k⟩ := h
  exact ⟨F, G, δ, Xc, _, R, hr, hx, fun G1 H1 p us xs δ1 e1 R1 a1 a2 a3 a4 a5 h1 => k _ H1 (.ref p) (.lst xs) δ1 (e1.trans (Ex.new a1)) (frz1 R1 a1 a2 a4 a5) ⟨p, us, rfl, upd_same, RpL.mono (Ex.new a1) _ _ a3⟩ h1⟩
/-! ### built-ins by name -/
def LeafC (K : PySem.W.Frag) (T : List (Addr × Str)) (rr : List V → Hp → VK → Prop) (f : List D → (D → Prop) → Prop) : Prop := ∀ F G H σ δ ds vs Qd (Q : VK), Rel K T F G H σ δ → RpL K G ds vs → f ds Qd →
  (∀ G' H' u z, Ex G G' → Rel K T F G' H' σ δ → Rp K G' z u → Qd z → Q u H') → rr vs H Q
def LeafF (K : PySem.W.Frag) (rr : List V → Hp → VK → Prop) (f : List D → (List D → Prop) → Prop) : Prop := ∀ G H ds vs Qd (Q : VK), Ex G H → RpL K G ds vs → f ds Qd →
  (∀ us zs, RpL K G zs us → Qd zs → ∀ p, H p = none → Q (.ref p) (upd H p (.lst us))) → rr vs H Q
def dCB (f : List D → (D → Prop) → Prop) (s : DF) : DE := fun Xc δ Q => s Xc δ fun xs δ1 => f xs fun z => Q z δ1
def fCB (f : List D → (List D → Prop) → Prop) (s : DF) : DF := fun Xc δ Q => s Xc δ fun xs δ1 => f xs fun z => Q z δ1
theorem up_cb {rr : List V → Hp → VK → Prop} {f : List D → (D → Prop) → Prop} (lf : LeafC X.K T rr f) : ∀ σ H Q, up X.K T W (dCB f s) σ H Q → tCB rr (upA X.K T W s) σ H Q := fun σ H Q h => by
  obtain ⟨F, G, δ, Xc, Qd, R, hr, hx, k⟩ := h
  exact ⟨F, G, δ, Xc, _, R, hr, hx, fun G1 H1 vs ds δ1 e1 R1 p1 h1 => lf F G1 H1 σ δ1 ds vs _ Q R1 p1 h1 fun G' H' u z e2 R2 p2 q => k G' H' u z δ1 (e1.trans e2) R2 p2 q⟩
theorem up_cbF {rr : List V → Hp → VK → Prop} {f : List D → (List D → Prop) → Prop} (lf : LeafF X.K rr f) : ∀ σ H Q, upF X.K T W (fCB f s) σ H Q → tCB rr (upA X.K T W s) σ H Q := fun σ H Q h => by
  obtain ⟨F, G, δ, Xc, Qd, R, hr, hx, k⟩ := h
  refine ⟨F, G, δ, Xc, _, R, hr, hx, fun G1 H1 vs ds δ1 e1 R1 p1 h1 => lf G1 H1 ds vs _ Q R1.ex p1 h1 fun us zs p2 h2 => newF (us := us) (ds := zs) e1 R1 p2 h2 k⟩
theorem dx_callB {x : Str} {p : Pos} {id : String} {rr : List V → Hp → VK → Prop} {f : List D → (D → Prop) → Prop} (hc : CallR X (.builtin id) rr) (lf : LeafC X.K T rr f) (hm : X.mg x = none) (hv : bootBuiltins x = some (.builtin id)) (ha : PA X (e :: es) (upA X.K T W s)) (hg : Gl X x := by rfl) (hn : x ≠ "__name__" := by decide)
    (hdb : (x == ("__debug__" : Str)) = false := by decide) (he : starEach (e :: es) X.env = (false, eval e X.env) :: starEach es X.env := by rfl) (hpl : (backTo pos (starEach es X.env)).any (·.1) = false := by rfl) :
    PE X (.Call (.Name x p) (e :: es) [] pos) (up X.K T W (dCB f s)) := PEi (pe_callB hc hg hm hv ha hn hdb he hpl) (up_cb lf)
theorem dx_callTy {x : Str} {p : Pos} {Y : String} {rr : List V → Hp → VK → Prop} {f : List D → (D → Prop) → Prop} (hc : CallR X (.type Y) rr) (lf : LeafC X.K T rr f) (hm : X.mg x = none) (hv : bootBuiltins x = some (.type Y)) (ha : PA X (e :: es) (upA X.K T W s)) (hg : Gl X x := by rfl) (hn : x ≠ "__name__" := by decide)
    (hdb : (x == ("__debug__" : Str)) = false := by decide) (he : starEach (e :: es) X.env = (false, eval e X.env) :: starEach es X.env := by rfl) (hpl : (backTo pos (starEach es X.env)).any (·.1) = false := by rfl) :
    PE X (.Call (.Name x p) (e :: es) [] pos) (up X.K T W (dCB f s)) := PEi (pe_callTy hc hg hm hv ha hn hdb he hpl) (up_cb lf)
theorem df_callB {x : Str} {p : Pos} {id : String} {rr : List V → Hp → VK → Prop} {f : List D → (List D → Prop) → Prop} (hc : CallR X (.builtin id) rr) (lf : LeafF X.K rr f) (hm : X.mg x = none) (hv : bootBuiltins x = some (.builtin id)) (ha : PA X (e :: es) (upA X.K T W s)) (hg : Gl X x := by rfl) (hn : x ≠ "__name__" := by decide)
    (hdb : (x == ("__debug__" : Str)) = false := by decide) (he : starEach (e :: es) X.env = (false, eval e X.env) :: starEach es X.env := by rfl) (hpl : (backTo pos (starEach es X.env)).any (·.1) = false := by rfl) :
    PE X (.Call (.Name x p) (e :: es) [] pos) (upF X.K T W (fCB f s)) := PEi (pe_callB hc hg hm hv ha hn hdb he hpl) (up_cbF lf)
theorem df_callTy {x : Str} {p : Pos} {Y : String} {rr : List V → Hp → VK → Prop} {f : List D → (List D → Prop) → Prop} (hc : CallR X (.type Y) rr) (lf : LeafF X.K rr f) (hm : X.mg x = none) (hv : bootBuiltins x = some (.type Y)) (ha : PA X (e :: es) (upA X.K T W s)) (hg : Gl X x := by rfl) (hn : x ≠ "__name__" := by decide)
    (hdb : (x == ("__debug__" : Str)) = false := by decide) (he : starEach (e :: es) X.env = (false, eval e X.env) :: starEach es X.env := by rfl) (hpl : (backTo pos (starEach es X.env)).any (·.1) = false := by rfl) :
    PE X (.Call (.Name x p) (e :: es) [] pos) (upF X.K T W (fCB f s)) := PEi (pe_callTy hc hg hm hv ha hn hdb he hpl) (up_cbF lf)
end
/-! the leaves -/
def gLen : List D → (D → Prop) → Prop
  | [.lst xs], Q => Q (.int xs.length)
  | [.tup xs], Q => Q (.int xs.length)
  | [.str z], Q => z.length ≤ sizeLine ∧ Q (.int z.length)
  | _, _ => False
def gAbs : List D → (D → Prop) → Prop
  | [.int i], Q => Q (.int (if i < 0 then -i else i))
  | _, _ => False
def gInt : List D → (D → Prop) → Prop
  | [.int i], Q => Q (.int i)
  | [.bl b], Q => Q (.int (if b then 1 else 0))
  | _, _ => False
def gMax2 : List D → (D → Prop) → Prop
  | [.int i, .int j], Q => Q (.int (if j > i then j else i))
  | _, _ => False
def gMin2 : List D → (D → Prop) → Prop
  | [.int i, .int j], Q => Q (.int (if j < i then j else i))
  | _, _ => False
def gSum : List D → (D → Prop) → Prop
  | [.lst xs], Q => ∃ ns : List Int, xs = ns.map D.int ∧ Q (.int ns.sum)
  | _, _ => False
def gMax : List D → (D → Prop) → Prop
  | [.lst xs], Q => ∃ ns : List Int, xs = ns.map D.int ∧ 0 < ns.length ∧ ∀ m, m ∈ ns → (∀ y, y ∈ ns → y ≤ m) → Q (.int m)
  | _, _ => False
def gMin : List D → (D → Prop) → Prop
  | [.lst xs], Q => ∃ ns : List Int, xs = ns.map D.int ∧ 0 < ns.length ∧ ∀ m, m ∈ ns → (∀ y, y ∈ ns → m ≤ y) → Q (.int m)
  | _, _ => False
def gAny : List D → (D → Prop) → Prop
  | [.lst xs], Q => ∃ bs : List Bool, xs = bs.map D.bl ∧ Q (.bl (bs.any id))
  | _, _ => False
def gAll : List D → (D → Prop) → Prop
  | [.lst xs], Q => ∃ bs : List Bool, xs = bs.map D.bl ∧ Q (.bl (bs.all id))
  | _, _ => False
def gTuple : List D → (D → Prop) → Prop
  | [.lst xs], Q => Q (.tup xs)
  | [.tup xs], Q => Q (.tup xs)
  | _, _ => False
def gList : List D → (List D → Prop) → Prop
  | [.lst xs], Q => Q xs
  | [.tup xs], Q => Q xs
  | _, _ => False
section
variable {K : PySem.W.Frag}
theorem one_of {G : Hp} {d : D} {vs : List V} (h : RpL K G [d] vs) : ∃ v, vs = [v] ∧ Rp K G d v := by
  obtain ⟨v, r, rfl, h1, h2⟩ := h
  rw [show r = [] from h2]
  exact ⟨v, rfl, h1⟩
theorem two_of {G : Hp} {d d2 : D} {vs : List V} (h : RpL K G [d, d2] vs) : ∃ v w, vs = [v, w] ∧ Rp K G d v ∧ Rp K G d2 w := by
  obtain ⟨v, r, rfl, h1, h2⟩ := h
  obtain ⟨w, rfl, h3⟩ := one_of h2
  exact ⟨v, w, rfl, h1, h3⟩
theorem lc_len : LeafC K T (fun xs H Q => (∃ p ys, xs = [.ref p] ∧ (SqL K H p ys ∨ SqT K H p ys) ∧ Q (.int ys.length) H) ∨ ∃ z, xs = [.str z] ∧ z.length ≤ sizeLine ∧ Q (.int z.length) H) gLen := fun F G H σ δ ds vs Qd Q R p hf k => by
  unfold gLen at hf
  split at hf
  · obtain ⟨v, rfl, a, us, rfl, h1, h2⟩ := one_of p
    exact .inl ⟨a, us, rfl, .inl (ex_lt R.ex h1), k G H _ (.int _) (Ex.refl G) R (by rw [h2.length]; rfl) hf⟩
  · obtain ⟨v, rfl, a, us, rfl, h1, h2⟩ := one_of p
    exact .inl ⟨a, us, rfl, .inr (ex_t R.ex h1), k G H _ (.int _) (Ex.refl G) R (by rw [h2.length]; rfl) hf⟩
  · obtain ⟨v, rfl, h1⟩ := one_of p
    obtain rfl := h1
    exact .inr ⟨_, rfl, hf.1, k G H _ (.int _) (Ex.refl G) R rfl hf.2⟩
  · exact hf.elim
theorem lc_abs : LeafC K T (fun xs H Q => ∃ i, xs = [.int i] ∧ Q (.int (if i < 0 then -i else i)) H) gAbs := fun F G H σ δ ds vs Qd Q R p hf k => by
  unfold gAbs at hf
  split at hf
  · obtain ⟨v, rfl, h1⟩ := one_of p
    obtain rfl := h1
    exact ⟨_, rfl, k G H _ (.int _) (Ex.refl G) R rfl hf⟩
  · exact hf.elim
theorem lc_int : LeafC K T (fun xs H Q => (∃ i, xs = [.int i] ∧ Q (.int i) H) ∨ ∃ k, xs = [.bl k] ∧ Q (.int (if k then 1 else 0)) H) gInt := fun F G H σ δ ds vs Qd Q R p hf k => by
  unfold gInt at hf
  split at hf
  · obtain ⟨v, rfl, h1⟩ := one_of p
    obtain rfl := h1
    exact .inl ⟨_, rfl, k G H _ (.int _) (Ex.refl G) R rfl hf⟩
  · obtain ⟨v, rfl, h1⟩ := one_of p
    obtain rfl := h1
    exact .inr ⟨_, rfl, k G H _ (.int _) (Ex.refl G) R rfl hf⟩
  · exact hf.elim
theorem lc_max2 : LeafC K T (fun xs H Q => ∃ i j, xs = [.int i, .int j] ∧ Q (.int (if j > i then j else i)) H) gMax2 := fun F G H σ δ ds vs Qd Q R p hf k => by
  unfold gMax2 at hf
  split at hf
  · obtain ⟨v, w, rfl, h1, h2⟩ := two_of p
    obtain rfl := h1
    obtain rfl := h2
    exact ⟨_, _, rfl, k G H _ (.int _) (Ex.refl G) R rfl hf⟩
  · exact hf.elim
theorem lc_min2 : LeafC K T (fun xs H Q => ∃ i j, xs = [.int i, .int j] ∧ Q (.int (if j < i then j else i)) H) gMin2 := fun F G H σ δ ds vs Qd Q R p hf k => by
  unfold gMin2 at hf
  split at hf
  · obtain ⟨v, w, rfl, h1, h2⟩ := two_of p
    obtain rfl := h1
    obtain rfl := h2
    exact ⟨_, _, rfl, k G H _ (.int _) (Ex.refl G) R rfl hf⟩
  · exact hf.elim
theorem lc_sum : LeafC K T (rSum K) gSum := fun F G H σ δ ds vs Qd Q R p hf k => by
  unfold gSum at hf
  split at hf
  · obtain ⟨ns, rfl, q⟩ := hf
    obtain ⟨v, rfl, a, us, rfl, h1, h2⟩ := one_of p
    obtain rfl := h2.ints
    exact ⟨a, ns, rfl, ex_lt R.ex h1, k G H _ (.int _) (Ex.refl G) R rfl q⟩
  · exact hf.elim
theorem lc_max : LeafC K T (rMax K) gMax := fun F G H σ δ ds vs Qd Q R p hf k => by
  unfold gMax at hf
  split at hf
  · obtain ⟨ns, rfl, h0, q⟩ := hf
    obtain ⟨v, rfl, a, us, rfl, h1, h2⟩ := one_of p
    obtain rfl := h2.ints
    exact ⟨a, ns, rfl, ex_lt R.ex h1, h0, fun m m1 m2 => k G H _ (.int _) (Ex.refl G) R rfl (q m m1 m2)⟩
  · exact hf.elim
theorem lc_min : LeafC K T (rMin K) gMin := fun F G H σ δ ds vs Qd Q R p hf k => by
  unfold gMin at hf
  split at hf
  · obtain ⟨ns, rfl, h0, q⟩ := hf
    obtain ⟨v, rfl, a, us, rfl, h1, h2⟩ := one_of p
    obtain rfl := h2.ints
    exact ⟨a, ns, rfl, ex_lt R.ex h1, h0, fun m m1 m2 => k G H _ (.int _) (Ex.refl G) R rfl (q m m1 m2)⟩
  · exact hf.elim
theorem lc_any : LeafC K T (rAny K) gAny := fun F G H σ δ ds vs Qd Q R p hf k => by
  unfold gAny at hf
  split at hf
  · obtain ⟨bs, rfl, q⟩ := hf
    obtain ⟨v, rfl, a, us, rfl, h1, h2⟩ := one_of p
    obtain rfl := h2.bools
    exact ⟨a, bs, rfl, ex_lt R.ex h1, k G H _ (.bl _) (Ex.refl G) R rfl q⟩
  · exact hf.elim
theorem lc_all : LeafC K T (rAll K) gAll := fun F G H σ δ ds vs Qd Q R p hf k => by
  unfold gAll at hf
  split at hf
  · obtain ⟨bs, rfl, q⟩ := hf
    obtain ⟨v, rfl, a, us, rfl, h1, h2⟩ := one_of p
    obtain rfl := h2.bools
    exact ⟨a, bs, rfl, ex_lt R.ex h1, k G H _ (.bl _) (Ex.refl G) R rfl q⟩
  · exact hf.elim
theorem lc_tuple : LeafC K T (fun xs H Q => ∃ p ys, xs = [.ref p] ∧ ((SqL K H p ys ∧ ∀ l, H l = none → Q (.ref l) (upd H l (.tup ys))) ∨ (SqT K H p ys ∧ Q (.ref p) H))) gTuple := fun F G H σ δ ds vs Qd Q R p hf k => by
  unfold gTuple at hf
  split at hf
  · obtain ⟨v, rfl, a, us, rfl, h1, h2⟩ := one_of p
    exact ⟨a, us, rfl, .inl ⟨ex_lt R.ex h1, fun l hl => k _ _ _ (.tup _) (Ex.new (R.ex.back hl)) (R.alloc hl) ⟨l, us, rfl, .inl (.inl upd_same), RpL.mono (Ex.new (R.ex.back hl)) _ _ h2⟩ hf⟩⟩
  · obtain ⟨v, rfl, a, us, rfl, h1, h2⟩ := one_of p
    exact ⟨a, us, rfl, .inr ⟨ex_t R.ex h1, k G H _ (.tup _) (Ex.refl G) R ⟨a, us, rfl, h1, h2⟩ hf⟩⟩
  · exact hf.elim
theorem lf_list : LeafF K (fun xs H Q => ∃ p ys, xs = [.ref p] ∧ (SqL K H p ys ∨ SqT K H p ys) ∧ ∀ l, H l = none → Q (.ref l) (upd H l (.lst ys))) gList := fun G H ds vs Qd Q e p hf k => by
  unfold gList at hf
  split at hf
  · obtain ⟨v, rfl, a, us, rfl, h1, h2⟩ := one_of p
    exact ⟨a, us, rfl, .inl (ex_lt e h1), k us _ h2 hf⟩
  · obtain ⟨v, rfl, a, us, rfl, h1, h2⟩ := one_of p
    exact ⟨a, us, rfl, .inr (ex_t e h1), k us _ h2 hf⟩
  · exact hf.elim
end
/-! isinstance -/
def tyN : D → String
  | .non => "NoneType"
  | .bl _ => "bool"
  | .int _ => "int"
  | .str _ => "str"
  | .lst _ => "list"
  | .tup _ => "tuple"
  | .sq _ => "list"
  | .dic _ _ => "dict"
  | .opq _ => ""
def isB (Y : String) (d : D) : Bool := tyN d == Y || (Y == "int" && tyN d == "bool")
def noq : D → Bool
  | .opq _ => false
  | _ => true
def gIsi (Y : String) : List D → (D → Prop) → Prop
  | [x, .opq (.ty t)], Q => noq x = true ∧ t = Y ∧ Q (.bl (isB Y x))
  | _, _ => False
def kinds : List String := ["NoneType", "bool", "int", "str", "list", "tuple", "dict"]
theorem kit_kinds : ∀ a ∈ kinds, ∀ b ∈ kinds, kitB a b = some (a == b || (b == "int" && a == "bool")) := by decide +kernel
theorem dt_of {K : PySem.W.Frag} {G H : Hp} (e : Ex G H) {d : D} {v : V} (h : Rp K G d v) (ho : ∀ w, d ≠ .opq w) : TyX K H v (.type (tyN d)) := by
  cases d with
  | non => obtain rfl := h; exact .base .non
  | bl b => obtain rfl := h; exact .base (.bl b)
  | int i => obtain rfl := h; exact .base (.int i)
  | str x => obtain rfl := h; exact .base (.str x)
  | lst xs =>
    obtain ⟨a, us, rfl, h1, h2⟩ := h
    exact .base (.lst (e _ _ h1))
  | sq xs =>
    obtain ⟨a, us, rfl, h1, h2⟩ := h
    rcases ex_l e h1 with (h | ⟨o, h⟩) | ⟨o, its, n, hk, hc, _⟩
    · exact .base (.lst h)
    · exact .base (.frz h)
    · exact .kList hk hc
  | tup xs =>
    obtain ⟨a, us, rfl, h1, h2⟩ := h
    rcases ex_t e h1 with (h | ⟨o, h⟩) | ⟨o, its, n, hk, hc, _⟩
    · exact .base (.tup h)
    · exact .fTuple h
    · exact .kTuple hk hc
  | dic ks vs =>
    obtain ⟨a, o, us, rfl, h1, h2, _⟩ := h
    obtain ⟨kvs, rfl, _⟩ := h2
    exact .base (.dK (e _ _ h1))
  | opq w => exact absurd rfl (ho w)
theorem lc_isi {K : PySem.W.Frag} {Y : String} (hT : Y ∈ kinds) : LeafC K T (rIsi K) (gIsi Y) := fun F G H σ δ ds vs Qd Q R p hf k => by
  unfold gIsi at hf
  split at hf
  · rename_i x t
    obtain ⟨v, w, rfl, h1, h2⟩ := two_of p
    obtain rfl := h2
    obtain ⟨hq, rfl, q⟩ := hf
    have ho : ∀ w, x ≠ .opq w := fun w z => by subst z; exact absurd (show false = true from hq) (by decide)
    refine ⟨v, .ty t, _, _, isB t x, rfl, .ty t, dt_of R.ex h1 ho, kit_ty ?_, k G H _ (.bl _) (Ex.refl G) R rfl q⟩
    refine kit_kinds _ ?_ t hT
    cases x <;> first | exact absurd rfl (ho _) | simp [tyN, kinds]
  · exact hf.elim
section
variable {X : Cx} {W : WX} {pos : Pos}
/-- a built-in class as a value -/
theorem dx_ty {x : Str} {Y : String} (hm : X.mg x = none) (hv : bootBuiltins x = some (.type Y)) (hg : Gl X x := by rfl) (hn : x ≠ "__name__" := by decide) (hd : (x == ("__debug__" : Str)) = false := by decide) : PE X (.Name x pos) (up X.K T W (dC (.opq (.ty Y)))) :=
  up_c (t := tC (.ty Y)) (pe_bltn (v := .ty Y) hg hm hv rfl hn hd) fun _ => rfl
end
end DL


set_option Elab.async false
set_option linter.all false
set_option maxRecDepth 100000
set_option autoImplicit true
namespace DL
open PySem PySem.Spec PyProof.Rows L2

/-! ### statements -/
inductive Rv where
  | d (x : D) | o (p : Addr) (xs : List D)
structure DEnds where
  nx : Ev → Prop
  rt : Rv → Ev → Prop
  bk : Ev → Prop := fun _ => False
  ct : Ev → Prop := fun _ => False
  xe : XC := fun _ _ => False
abbrev DS := DEnds → Ev → Prop
def RvOk (K : PySem.W.Frag) (F : Fm) (G H : Hp) : Rv → V → Prop
  | .d x, v => Rp K G x v
  | .o p xs, v => v = .ref p ∧ G p = none ∧ (p ∈ F.B ∨ ¬ nT F.H0 p) ∧ ∃ us, H p = some (.lst us) ∧ RpL K G xs us
structure EndOk (K : PySem.W.Frag) (T : List (Addr × Str)) (W : WX) (F : Fm) (G : Hp) (Dd : DEnds) (Dn : Ends) : Prop where
  nx : ∀ G' H' σ' δ', Ex G G' → Rel K T F G' H' σ' δ' → Dd.nx δ' → Dn.nx σ' H'
  rt : ∀ G' H' σ' δ' v rv, Ex G G' → Rel K T F G' H' σ' δ' → RvOk K F G' H' rv v → Dd.rt rv δ' → Dn.rt v H'
  bk : ∀ G' H' σ' δ', Ex G G' → Rel K T F G' H' σ' δ' → Dd.bk δ' → Dn.bk σ' H'
  ct : ∀ G' H' σ' δ', Ex G G' → Rel K T F G' H' σ' δ' → Dd.ct δ' → Dn.ct σ' H'
  xe : ∀ G' H' σ' δ' C, Ex G G' → Rel K T F G' H' σ' δ' → Dd.xe C δ' → W (.ref C) none σ' H'
theorem EndOk.mono {K : PySem.W.Frag} {W : WX} {F : Fm} {G G1 : Hp} {Dd : DEnds} {Dn : Ends} (h : EndOk K T W F G Dd Dn) (e : Ex G G1) : EndOk K T W F G1 Dd Dn :=
  ⟨fun G' H' σ' δ' a => h.nx G' H' σ' δ' (e.trans a), fun G' H' σ' δ' v rv a => h.rt G' H' σ' δ' v rv (e.trans a), fun G' H' σ' δ' a => h.bk G' H' σ' δ' (e.trans a), fun G' H' σ' δ' a => h.ct G' H' σ' δ' (e.trans a), fun G' H' σ' δ' C a => h.xe G' H' σ' δ' C (e.trans a)⟩
theorem EndOk.x {K : PySem.W.Frag} {W : WX} {F : Fm} {G : Hp} {Dd : DEnds} {Dn : Ends} {σ : L2.St} (h : EndOk K T W F G Dd Dn) : XOk K T W F G σ Dd.xe := fun G' H' δ' C e R q => h.xe G' H' σ δ' C e R q
def upS (K : PySem.W.Frag) (T : List (Addr × Str)) (W : WX) (r : DS) : TS := fun Dn σ H => ∃ F G δ Dd, Rel K T F G H σ δ ∧ r Dd δ ∧ EndOk K T W F G Dd Dn
theorem PSi {X : Cx} {e : Stmt} {t t' : TS} (h : PS X e t) (k : ∀ D σ H, t' D σ H → t D σ H) : PS X e t' := ⟨fun pins s σ H D I q => h.run pins s σ H D I (k _ _ _ q)⟩
theorem PSsi {X : Cx} {e : List Stmt} {t t' : TS} (h : PSs X e t) (k : ∀ D σ H, t' D σ H → t D σ H) : PSs X e t' := ⟨fun pins s σ H D I q => h.run pins s σ H D I (k _ _ _ q)⟩

def sSkip : DS := fun Dd δ => Dd.nx δ
def sSeq (r s : DS) : DS := fun Dd δ => r { Dd with nx := s Dd } δ
/-- the same with a word between them, said by the reader -/
def sCut (r s : DS) : DS := fun Dd δ => ∃ M : Ev → Prop, r { Dd with nx := M } δ ∧ ∀ δ', M δ' → s Dd δ'
def sSet (i : Nat) (r : DE) : DS := fun Dd δ => r Dd.xe δ fun x δ' => Dd.nx (δ'.set i (.d x))
def sSetF (i : Nat) (r : DF) : DS := fun Dd δ => r Dd.xe δ fun xs δ' => ∀ p, p ∉ owns δ' → Dd.nx (δ'.set i (.o p xs))
def sPar (i j : Nat) (s : DF) : DS := fun Dd δ => s Dd.xe δ fun xs δ' => match xs with
  | [x, y] => Dd.nx ((δ'.set i (.d x)).set j (.d y))
  | _ => False
def sDrop (r : DE) : DS := fun Dd δ => r Dd.xe δ fun _ δ' => Dd.nx δ'
def sRet (r : DE) : DS := fun Dd δ => r Dd.xe δ fun x δ' => Dd.rt (.d x) δ'
def sRetF (r : DF) : DS := fun Dd δ => r Dd.xe δ fun xs δ' => ∀ p, p ∉ owns δ' → Dd.rt (.o p xs) δ'
def sRetO (i : Nat) : DS := fun Dd δ => match δ[i]? with
  | some (.o p xs) => Dd.rt (.o p xs) δ
  | _ => False
def sRetN : DS := fun Dd δ => Dd.rt (.d .non) δ
def sBreak : DS := fun Dd δ => Dd.bk δ
def sCont : DS := fun Dd δ => Dd.ct δ
def sIf (t : DT) (r s : DS) : DS := fun Dd δ => t Dd.xe δ fun b δ' => (b = true → r Dd δ') ∧ (b = false → s Dd δ')
def sWhile (t : DT) (r : DS) : DS := fun Dd δ => ∃ I : Nat → Ev → Prop, (∃ m, I m δ) ∧ ∀ m δ1, I m δ1 → t Dd.xe δ1 fun b δ2 => (b = true → r { Dd with nx := fun δ3 => ∃ m', m' < m ∧ I m' δ3, ct := fun δ3 => ∃ m', m' < m ∧ I m' δ3, bk := Dd.nx } δ2) ∧ (b = false → Dd.nx δ2)
def sRaise (C : Addr) : DS := fun Dd δ => Dd.xe C δ
def sAug (i : Nat) (f : D → D → (D → Prop) → Prop) (r : DE) : DS := fun Dd δ => match δ[i]? with
  | some (.d x) => r Dd.xe δ fun y δ' => f x y fun z => Dd.nx (δ'.set i (.d z))
  | _ => False
section
variable {X : Cx} {W : WX} {st : Stmt} {rest : List Stmt} {e : Expr} {r s : DS} {re : DE} {rf : DF} {pos : Pos}
theorem ds_nil : PSs X [] (upS X.K T W sSkip) := PSsi pss_nil fun Dn σ H h => by
  obtain ⟨F, G, δ, Dd, R, hr, k⟩ := h
  exact k.nx G H σ δ (Ex.refl G) R hr
theorem ds_cons (h1 : PS X st (upS X.K T W r)) (h2 : PSs X rest (upS X.K T W s)) : PSs X (st :: rest) (upS X.K T W (sSeq r s)) := PSsi (pss_cons h1 h2) fun Dn σ H h => by
  obtain ⟨F, G, δ, Dd, R, hr, k⟩ := h
  exact ⟨F, G, δ, _, R, hr, fun G' H' σ' δ' e R' q => ⟨F, G', δ', Dd, R', q, k.mono e⟩, k.rt, k.bk, k.ct, k.xe⟩
theorem ds_cut (h1 : PS X st (upS X.K T W r)) (h2 : PSs X rest (upS X.K T W s)) : PSs X (st :: rest) (upS X.K T W (sCut r s)) := PSsi (pss_cons h1 h2) fun Dn σ H h => by
  obtain ⟨F, G, δ, Dd, R, ⟨M, hr, hM⟩, k⟩ := h
  exact ⟨F, G, δ, _, R, hr, fun G' H' σ' δ' e R' q => ⟨F, G', δ', Dd, R', hM δ' q, k.mono e⟩, k.rt, k.bk, k.ct, k.xe⟩
theorem ds_one (h1 : PS X st (upS X.K T W r)) : PSs X [st] (upS X.K T W r) := pss_one h1
theorem ds_set {i : Nat} {x : Str} {pos' : Pos} (hN : X.N.Nodup) (hi : X.N[i]? = some x) (hx : Loc X.env.scope x) (he : PE X e (up X.K T W re)) (hs : swapsWith e (some (.Name x pos')) pos.line X.env = pure false := by rfl)
    (hf : X.fn x = true ∨ X.env.scope.names.lookup x = some .local := by first | exact .inl rfl | exact .inr rfl | assumption) : PS X (.Assign [.Name x pos'] e pos) (upS X.K T W (sSet i re)) := PSi (ps_set hN hi hx he hs hf) fun Dn σ H h => by
  obtain ⟨F, G, δ, Dd, R, hr, k⟩ := h
  exact ⟨F, G, δ, Dd.xe, _, R, hr, k.x, fun G' H' v d δ' e R' p q => k.nx G' H' _ _ e (R'.setd p) q⟩
theorem up_setF {i : Nat} : ∀ D σ H, upS X.K T W (sSetF i rf) D σ H → tAsg (upF X.K T W rf) (gName i) D σ H := fun Dn σ H h => by
  obtain ⟨F, G, δ, Dd, R, hr, k⟩ := h
  exact ⟨F, G, δ, Dd.xe, _, R, hr, k.x, fun G' H' p us xs δ' e R' a1 a2 a3 a4 a5 q => k.nx G' H' _ _ e (R'.seto a2 a1 a3 a5 (.inr a4)) (q p a5)⟩
theorem up_set {i : Nat} : ∀ D σ H, upS X.K T W (sSet i re) D σ H → tAsg (up X.K T W re) (gName i) D σ H := fun Dn σ H h => by
  obtain ⟨F, G, δ, Dd, R, hr, k⟩ := h
  exact ⟨F, G, δ, Dd.xe, _, R, hr, k.x, fun G' H' v d δ' e R' p q => k.nx G' H' _ _ e (R'.setd p) q⟩
theorem ds_setF {i : Nat} {x : Str} {pos' : Pos} (hN : X.N.Nodup) (hi : X.N[i]? = some x) (hx : Loc X.env.scope x) (he : PE X e (upF X.K T W rf)) (hs : swapsWith e (some (.Name x pos')) pos.line X.env = pure false := by rfl)
    (hf : X.fn x = true ∨ X.env.scope.names.lookup x = some .local := by first | exact .inl rfl | exact .inr rfl | assumption) : PS X (.Assign [.Name x pos'] e pos) (upS X.K T W (sSetF i rf)) := PSi (ps_set hN hi hx he hs hf) up_setF
theorem ds_par {i j : Nat} {x y : Str} {a b : Expr} {sf : DF} {px py pt : Pos} {kt k2 pt2} (hc : X.calm = true) (hN : X.N.Nodup) (hi : X.N[i]? = some x) (hj : X.N[j]? = some y) (hij : i ≠ j)
    (hx : X.env.scope.names.lookup x = some .local) (hy : X.env.scope.names.lookup y = some .local) (ha : PA X [a, b] (upA X.K T W sf)) (hw : swappedStores [.Tuple [.Name x px, .Name y py] kt pt] (.Tuple [a, b] k2 pt2) X.env = pure (some [x, y]) := by rfl)
    (hs : swapsWithSole [.Tuple [.Name x px, .Name y py] kt pt] (.Tuple [a, b] k2 pt2) pos.line X.env = pure false := by rfl) :
    PS X (.Assign [.Tuple [.Name x px, .Name y py] kt pt] (.Tuple [a, b] k2 pt2) pos) (upS X.K T W (sPar i j sf)) := PSi (ps_par hc hN hi hj hij hx hy ha hw hs) fun Dn σ H h => by
  obtain ⟨F, G, δ, Dd, R, hr, k⟩ := h
  refine ⟨F, G, δ, Dd.xe, _, R, hr, k.x, fun G' H' vs ds δ' e R' p q => ?_⟩
  match ds, p, q with
  | [d1, d2], p, q =>
    obtain ⟨v, w, rfl, h1, h2⟩ := two_of p
    exact ⟨v, w, rfl, k.nx G' H' _ _ e ((R'.setd h1).setd h2) q⟩
  | [], _, q => exact q.elim
  | [_], _, q => exact q.elim
  | _ :: _ :: _ :: _, _, q => exact q.elim
theorem ds_drop (he : PE X e (up X.K T W re)) (hs : swapsWith e none pos.line X.env = pure false := by rfl) : PS X (.Expr e pos) (upS X.K T W (sDrop re)) := PSi (ps_expr he hs) fun Dn σ H h => by
  obtain ⟨F, G, δ, Dd, R, hr, k⟩ := h
  exact ⟨F, G, δ, Dd.xe, _, R, hr, k.x, fun G' H' v d δ' e R' p q => k.nx G' H' _ _ e R' q⟩
theorem ds_ret (he : PE X e (up X.K T W re)) : PS X (.Return (some e) pos) (upS X.K T W (sRet re)) := PSi (ps_ret he) fun Dn σ H h => by
  obtain ⟨F, G, δ, Dd, R, hr, k⟩ := h
  exact ⟨F, G, δ, Dd.xe, _, R, hr, k.x, fun G' H' v d δ' e R' p q => k.rt G' H' σ δ' v (.d d) e R' p q⟩
theorem ds_retF (he : PE X e (upF X.K T W rf)) : PS X (.Return (some e) pos) (upS X.K T W (sRetF rf)) := PSi (ps_ret he) fun Dn σ H h => by
  obtain ⟨F, G, δ, Dd, R, hr, k⟩ := h
  exact ⟨F, G, δ, Dd.xe, _, R, hr, k.x, fun G' H' p us xs δ' e R' a1 a2 a3 a4 a5 q => k.rt G' H' σ δ' _ (.o p xs) e R' ⟨rfl, a1, .inr a4, us, a2, a3⟩ (q p a5)⟩
/-- return x, x an owned list that was made here -/
theorem ds_retO (i : Nat) {x : Str} {px : Pos} (hN : X.N[i]? = some x := by rfl) (hv : Vis X.env.scope x := by first | exact Or.inl rfl | exact Or.inr (Or.inl rfl) | exact Or.inr (Or.inr rfl)) (hd : (x == ("__debug__" : Str)) = false := by decide)
    (hcd : (x == ("__classdict__" : Str)) = false := by decide) : PS X (.Return (some (.Name x px)) pos) (upS X.K T W (sRetO i)) := PSi (ps_ret (pe_var hN hv hd hcd)) fun Dn σ H h => by
  obtain ⟨F, G, δ, Dd, R, hr, k⟩ := h
  unfold sRetO at hr
  split at hr
  · rename_i p xs hx
    obtain ⟨h1, h2, us, h3, h4⟩ := R.oget hx
    exact ⟨_, h1, k.rt G H σ δ _ (.o p xs) (Ex.refl G) R ⟨rfl, h2, R.own p (own_mem hx), us, h3, h4⟩ hr⟩
  · exact hr.elim
theorem ds_retN : PS X (.Return none pos) (upS X.K T W sRetN) := PSi ps_retN fun Dn σ H h => by
  obtain ⟨F, G, δ, Dd, R, hr, k⟩ := h
  exact k.rt G H σ δ _ (.d .non) (Ex.refl G) R rfl hr
theorem ds_pass : PS X (.Pass pos) (upS X.K T W sSkip) := PSi ps_pass fun Dn σ H h => by
  obtain ⟨F, G, δ, Dd, R, hr, k⟩ := h
  exact k.nx G H σ δ (Ex.refl G) R hr
theorem ds_break : PS X (.Break pos) (upS X.K T W sBreak) := PSi ps_break fun Dn σ H h => by
  obtain ⟨F, G, δ, Dd, R, hr, k⟩ := h
  exact k.bk G H σ δ (Ex.refl G) R hr
theorem ds_continue : PS X (.Continue pos) (upS X.K T W sCont) := PSi ps_continue fun Dn σ H h => by
  obtain ⟨F, G, δ, Dd, R, hr, k⟩ := h
  exact k.ct G H σ δ (Ex.refl G) R hr
theorem ds_if {c : Expr} {a b : List Stmt} {t : DT} (hc : PT X c (upT X.K T W t)) (ha : PSs X a (upS X.K T W r)) (hb : PSs X b (upS X.K T W s)) : PS X (.If c a b pos) (upS X.K T W (sIf t r s)) := PSi (ps_if hc ha hb) fun Dn σ H h => by
  obtain ⟨F, G, δ, Dd, R, hr, k⟩ := h
  refine ⟨F, G, δ, Dd.xe, _, R, hr, k.x, fun G' H' b δ' e R' q => ?_⟩
  cases b with
  | true => exact iteT ⟨F, G', δ', Dd, R', q.1 rfl, k.mono e⟩
  | false => exact iteF ⟨F, G', δ', Dd, R', q.2 rfl, k.mono e⟩
theorem ds_while {c : Expr} {body : List Stmt} {t : DT} (hp : PassesOwn (model X.prog X.w) X.A X.env X.xe) (hc : PT X c (upT X.K T W t)) (hb : PSs X body (upS X.K T W r)) : PS X (.While c body [] pos) (upS X.K T W (sWhile t r)) := PSi (ps_while hp hc hb) fun Dn σ H h => by
  obtain ⟨F, G, δ, Dd, R, ⟨I, ⟨m0, h0⟩, hs⟩, k⟩ := h
  refine ⟨fun m σ' H' => ∃ G' δ', Ex G G' ∧ Rel X.K T F G' H' σ' δ' ∧ I m δ', ⟨m0, G, δ, Ex.refl G, R, h0⟩, ?_⟩
  rintro m σ1 H1 ⟨G1, δ1, e1, R1, i1⟩
  refine ⟨F, G1, δ1, Dd.xe, _, R1, hs m δ1 i1, (k.mono e1).x, fun G2 H2 b δ2 e2 R2 q => ?_⟩
  cases b with
  | true =>
    refine iteT ⟨fun σ' H' => ∃ G' δ', Ex G G' ∧ Rel X.K T F G' H' σ' δ' ∧ ∃ m', m' < m ∧ I m' δ', fun σ' H' ⟨G', δ', a1, a2, m', a3, a4⟩ => ⟨m', a3, G', δ', a1, a2, a4⟩, F, G2, δ2, _, R2, q.1 rfl, ?_⟩
    have kk := k.mono (e1.trans e2)
    exact ⟨fun G' H' σ' δ' e R' q => ⟨G', δ', (e1.trans e2).trans e, R', q⟩, kk.rt, kk.nx, fun G' H' σ' δ' e R' q => ⟨G', δ', (e1.trans e2).trans e, R', q⟩, kk.xe⟩
  | false => exact iteF (k.nx G2 H2 σ1 δ2 (e1.trans e2) R2 (q.2 rfl))
theorem ds_raise {t : L2.St → Hp → XK → Prop} {C : Addr} (hc : X.calm = true) (tk : Takes X W) (he : PMk X e (fun _ H Q => Q (.ref C) none H)) : PS X (.Raise (some e) none pos) (upS X.K T W (sRaise C)) := PSi (ps_raise hc tk he) fun Dn σ H h => by
  obtain ⟨F, G, δ, Dd, R, hr, k⟩ := h
  exact k.xe G H σ δ C (Ex.refl G) R hr
def LeafIp (K : PySem.W.Frag) (T : List (Addr × Str)) (rr : TIp) (f : D → D → (D → Prop) → Prop) : Prop := Leaf2 K T rr f
theorem ds_aug {i : Nat} {x : Str} {op : Operator} {ti : TIp} {f : D → D → (D → Prop) → Prop} {pos' : Pos} (hN : X.N.Nodup) (hi : X.N[i]? = some x) (hx : Loc X.env.scope x) (he : PE X e (up X.K T W re)) (ho : PIp X op ti) (lf : Leaf2 X.K T ti f)
    (hf : X.fn x = true ∨ X.env.scope.names.lookup x = some .local := by first | exact .inl rfl | exact .inr rfl | assumption) : PS X (.AugAssign (.Name x pos') op e pos) (upS X.K T W (sAug i f re)) := PSi (ps_aug hN hi hx he ho hf) fun Dn σ H h => by
  obtain ⟨F, G, δ, Dd, R, hr, k⟩ := h
  unfold sAug at hr
  split at hr
  · rename_i y hy
    obtain ⟨v, h1, h2⟩ := R.dget hy
    refine ⟨v, h1, F, G, δ, Dd.xe, _, R, hr, k.x, fun G1 H1 w d δ1 e1 R1 p1 q1 => ?_⟩
    exact lf F G1 H1 σ δ1 y d v w _ _ R1 (Rp.mono e1 _ _ h2) p1 q1 fun G' H' u z e2 R2 p2 q => k.nx G' H' _ _ (e1.trans e2) (R2.setd p2) q
  · exact hr.elim
theorem lf_ipI {K : PySem.W.Frag} {g : Int → Int → Int} : Leaf2 K T (ipI g) (fI (fun _ _ => True) fun i j => .int (g i j)) := fun F G H σ δ x y v w Qd Q R px py hf k => by
  cases x <;> cases y <;> first | exact hf.elim | skip
  exact ⟨_, _, px, py, k G H _ (.int _) (Ex.refl G) R rfl hf.2⟩
end
/-! ### owned lists: items read, stored, appended; frozen while they are looked at -/
def dIxO (j : Nat) (ri : DE) : DE := fun Xc δ Q => match δ[j]? with
  | some (.o _ _) => ri Xc δ fun i δ1 => match δ1[j]?, i with
    | some (.o _ xs), .int i => ∃ x, atI xs i = some x ∧ Q x δ1
    | _, _ => False
  | _ => False
def sApp (j : Nat) (re : DE) : DS := fun Dd δ => match δ[j]? with
  | some (.o _ _) => re Dd.xe δ fun x δ1 => match δ1[j]? with
    | some (.o p xs) => xs.length < sizeLine ∧ Dd.nx (δ1.set j (.o p (xs ++ [x])))
    | _ => False
  | _ => False
def sSetIx (j : Nat) (ri re : DE) : DS := fun Dd δ => match δ[j]? with
  | some (.o _ _) => re Dd.xe δ fun x δ1 => ri Dd.xe δ1 fun i δ2 => match δ2[j]?, i with
    | some (.o p xs), .int i => ∃ n, ixN xs.length i = some n ∧ Dd.nx (δ2.set j (.o p (xs.set n x)))
    | _, _ => False
  | _ => False
def frz (δ : Ev) : Ev := δ.map fun s => match s with
  | .h _ ks vs => .d (.dic ks vs)
  | .o _ xs => .d (.lst xs)
  | .k .. => .u
  | s => s
def dPeek (r : DE) : DE := fun _ δ Q => r (fun _ _ => False) (frz δ) fun d δ' => δ' = frz δ ∧ flatD d = true ∧ Q d δ
def dPeekT (r : DT) : DT := fun _ δ Q => r (fun _ _ => False) (frz δ) fun b δ' => δ' = frz δ ∧ Q b δ
theorem frz_own : ∀ δ : Ev, owns (frz δ) = []
  | [] => rfl
  | .u :: δ => frz_own δ
  | .d x :: δ => frz_own δ
  | .o p xs :: δ => frz_own δ
  | .h p ks vs :: δ => frz_own δ
  | .k p f ks vs :: δ => frz_own δ
theorem frz_sl {K : PySem.W.Frag} {G G1 H : Hp} (e : Ex G G1) : ∀ {δ : Ev} {σ : L2.St}, (∀ p ∈ owns δ, ∀ o, H p = some o → G1 p = some o) → SlL K G H δ σ → SlL K G1 H (frz δ) σ
  | _, _, _, .nil => .nil
  | .u :: _, _, hp, .cons h t => .cons trivial (frz_sl e hp t)
  | .d x :: _, _, hp, .cons h t => by
    obtain ⟨v, h1, h2⟩ := h
    exact .cons ⟨v, h1, Rp.mono e _ _ h2⟩ (frz_sl e hp t)
  | .o p xs :: _, _, hp, .cons h t => by
    obtain ⟨h1, h2, us, h3, h4⟩ := h
    exact .cons ⟨_, h1, p, us, rfl, hp p List.mem_cons_self _ h3, RpL.mono e _ _ h4⟩ (frz_sl e (fun q hq => hp q (List.mem_cons_of_mem _ hq)) t)
  | .h p ks vs :: _, _, hp, .cons h t => by
    obtain ⟨h1, h2, o, us, h3, h4, h5⟩ := h
    exact .cons ⟨_, h1, p, o, us, rfl, hp p List.mem_cons_self _ h3, h4, RpL.mono e _ _ h5⟩ (frz_sl e (fun q hq => hp q (List.mem_cons_of_mem _ hq)) t)
  | .k p f ks vs :: _, _, hp, .cons h t => .cons trivial (frz_sl e (fun q hq => hp q (List.mem_cons_of_mem _ hq)) t)
section
variable {K : PySem.W.Frag} {F : Fm} {G H : Hp} {σ : L2.St} {δ : Ev}
open Classical in
theorem Rel.frz (R : Rel K T F G H σ δ) : ∃ F1 G1, Rel K T F1 G1 H σ (DL.frz δ) ∧ ∀ G' H' σ' δ', Ex G1 G' → Rel K T F1 G' H' σ' δ' → ∃ G2, Ex G G2 ∧ Rel K T F G2 H' σ δ := by
  let G1 : Hp := fun a => if (a ∈ owns δ ∧ G a = none) then H a else G a
  have gn : ∀ p, p ∈ owns δ ∧ G p = none → G p = none := fun p hp => hp.2
  have e1 : Ex G G1 := fun a o h => by
    show (if (a ∈ owns δ ∧ G a = none) then H a else G a) = some o
    rw [if_neg (fun z => by rw [gn a z] at h; cases h)]
    exact h
  have e2 : Ex G1 H := fun a o h => by
    have h : (if (a ∈ owns δ ∧ G a = none) then H a else G a) = some o := h
    by_cases z : a ∈ owns δ ∧ G a = none
    · rw [if_pos z] at h; exact h
    · rw [if_neg z] at h; exact R.ex a o h
  refine ⟨⟨H, G1, []⟩, G1, ⟨e2, frz_sl e1 (fun p hp us h => ?_) R.sl, (by rw [frz_own]; exact List.nodup_nil), (fun p hp => by rw [frz_own] at hp; cases hp), fun a o _ h _ => h, fun a h => h, fun a _ _ h => h, ⟨R.tab.1, fun a ps h => ?_⟩⟩, fun G' H' σ' δ' x1 R' => ?_⟩
  · show (if (p ∈ owns δ ∧ G p = none) then H p else G p) = _
    by_cases z : G p = none
    · rw [if_pos ⟨hp, z⟩]; exact h
    · rw [if_neg (fun y => z y.2)]
      cases q : G p with
      | none => exact absurd q z
      | some o' => rw [← R.ex p o' q]; exact h
  · have h : (if (a ∈ owns δ ∧ G a = none) then H a else G a) = some (.tbl ps) := h
    by_cases z : a ∈ owns δ ∧ G a = none
    · rw [if_pos z] at h
      obtain ⟨s, hs, he⟩ := List.mem_filterMap.mp z.1
      obtain ⟨i, hi⟩ := List.getElem?_of_mem hs
      cases s with
      | u => cases he
      | d x => cases he
      | o q xs =>
        cases he
        obtain ⟨_, _, us, h3, _⟩ := R.oget hi
        rw [h] at h3
        cases h3
      | h q ks vs =>
        cases he
        obtain ⟨_, _, o, us, h3, h4, _⟩ := R.hget hi
        rw [h] at h3
        exact h4.nt ps (Option.some.inj h3).symm
      | k q f ks vs =>
        cases he
        obtain ⟨_, _, ok⟩ := R.sl.get hi
        exact absurd (ok.2.1.symm.trans z.2) (fun y => nomatch y)
    · rw [if_neg z] at h
      exact R.tab.2 a ps h
  · refine ⟨fun a => if (a ∈ owns δ ∧ G a = none) then none else G' a, fun a o h => ?_, ?_⟩
    · show (if (a ∈ owns δ ∧ G a = none) then none else G' a) = some o
      rw [if_neg (fun z => by rw [gn a z] at h; cases h)]
      exact x1 a o (e1 a o h)
    · refine R.growN (fun a o h => ?_) (fun a o h n => R'.keep a o (fun z => nomatch z) h n) (fun a o h => ?_) (fun a h1 h2 => ?_) ⟨R'.tab.1, fun a ps h => ?_⟩
      · show (if (a ∈ owns δ ∧ G a = none) then none else G' a) = some o
        rw [if_neg (fun z => by rw [gn a z] at h; cases h)]
        exact x1 a o (e1 a o h)
      · have h : (if (a ∈ owns δ ∧ G a = none) then none else G' a) = some o := h
        by_cases z : a ∈ owns δ ∧ G a = none
        · rw [if_pos z] at h; cases h
        · rw [if_neg z] at h; exact R'.ex a o h
      · have h2 : (if (a ∈ owns δ ∧ G a = none) then none else G' a) ≠ none := h2
        by_cases z : a ∈ owns δ ∧ G a = none
        · rw [if_pos z] at h2; exact absurd rfl h2
        · rw [if_neg z] at h2
          have q : (if (a ∈ owns δ ∧ G a = none) then H a else G a) ≠ none := R'.gh a (fun z => nomatch z) h1 h2
          rw [if_neg z] at q
          exact q
      · have h : (if (a ∈ owns δ ∧ G a = none) then none else G' a) = some (.tbl ps) := h
        by_cases z : a ∈ owns δ ∧ G a = none
        · rw [if_pos z] at h; cases h
        · rw [if_neg z] at h; exact R'.tab.2 a ps h
end
theorem flat_rp {K : PySem.W.Frag} {G G' : Hp} {d : D} {v : V} (h : flatD d = true) (p : Rp K G d v) : Rp K G' d v := by
  cases d <;> first | exact p | exact absurd (show false = true from h) (by decide)
section
variable {X : Cx} {W : WX} {e a b : Expr} {re ri : DE} {pos : Pos}
theorem dx_peek (h : PE X e (up X.K T W re)) : PE X e (up X.K T W (dPeek re)) := PEi h fun σ H Q h => by
  obtain ⟨F, G, δ, Xc, Qd, R, hr, hx, k⟩ := h
  obtain ⟨F1, G1, R1, back⟩ := R.frz
  refine ⟨F1, G1, frz δ, _, _, R1, hr, fun _ _ _ _ _ _ z => z.elim, fun G' H' v d δ' e R' p q => ?_⟩
  obtain ⟨rfl, q1, q2⟩ := q
  obtain ⟨G2, e2, R2⟩ := back G' H' _ _ e R'
  exact k G2 H' v d δ e2 R2 (flat_rp q1 p) q2
theorem dt_peek {t : DT} (h : PT X e (upT X.K T W t)) : PT X e (upT X.K T W (dPeekT t)) := PTi h fun σ H Q h => by
  obtain ⟨F, G, δ, Xc, Qd, R, hr, hx, k⟩ := h
  obtain ⟨F1, G1, R1, back⟩ := R.frz
  refine ⟨F1, G1, frz δ, _, _, R1, hr, fun _ _ _ _ _ _ z => z.elim, fun G' H' b δ' e R' q => ?_⟩
  obtain ⟨rfl, q2⟩ := q
  obtain ⟨G2, e2, R2⟩ := back G' H' _ _ e R'
  exact k G2 H' b δ e2 R2 q2
theorem dx_ixO (j : Nat) {x : Str} {px : Pos} (hb : PE X b (up X.K T W ri)) (hN : X.N[j]? = some x := by rfl) (hv : Vis X.env.scope x := by first | exact Or.inl rfl | exact Or.inr (Or.inl rfl) | exact Or.inr (Or.inr rfl)) (hs : PlainIx b := by exact fun _ _ => rfl) (hd : (x == ("__debug__" : Str)) = false := by decide)
    (hcd : (x == ("__classdict__" : Str)) = false := by decide) : PE X (.Subscript (.Name x px) b pos) (up X.K T W (dIxO j ri)) := PEi (pe_ix ix_list (pe_var hN hv hd hcd) hb hs) fun σ H Q h => by
  obtain ⟨F, G, δ, Xc, Qd, R, hr, hx, k⟩ := h
  unfold dIxO at hr
  split at hr
  · rename_i p0 xs0 hj0
    obtain ⟨h0, _⟩ := R.oget hj0
    refine ⟨_, h0, F, G, δ, Xc, _, R, hr, hx, fun G1 H1 w d δ1 e1 R1 p1 q1 => ?_⟩
    split at q1
    · rename_i p xs i hj
      obtain ⟨z, hz, q⟩ := q1
      obtain ⟨h1, h2, us, h3, h4⟩ := R1.oget hj
      rw [h0] at h1
      cases h1
      obtain ⟨u, hu, pu⟩ := h4.at hz
      exact ⟨p0, us, _, u, rfl, p1, .inl (.inl h3), hu, k G1 H1 u z δ1 e1 R1 pu q⟩
    · exact q1.elim
  · exact hr.elim
theorem ds_app (j : Nat) {x : Str} {px apos : Pos} {pos' : Pos} (he : PE X e (up X.K T W re)) (hN : X.N[j]? = some x := by rfl) (hv : Vis X.env.scope x := by first | exact Or.inl rfl | exact Or.inr (Or.inl rfl) | exact Or.inr (Or.inr rfl)) (hd : (x == ("__debug__" : Str)) = false := by decide)
    (hcd : (x == ("__classdict__" : Str)) = false := by decide) (hbase : attributeBase (.Name x px) "append" X.env (eval (.Name x px) X.env) = eval (.Name x px) X.env := by rfl)
    (hfew : ((backTo pos' (starEach [e] X.env)).all (fun x => !x.1) && (backToKw pos' (keywordEach [] X.env)).all (fun x => x.1.isSome)
      && decide (([e] : List Expr).length + ([] : List Keyword).length + (if ([] : List Keyword).isEmpty then 0 else 1) < 30)) = true := by rfl)
    (hline : (apos.endLine == pos'.line) = true := by rfl) (hs : starEach [e] X.env = (false, eval e X.env) :: starEach [] X.env := by rfl) (hplain : (backTo pos' (starEach [] X.env)).any (·.1) = false := by rfl)
    (hsw : swapsWith (.Call (.Attribute (.Name x px) "append" apos) [e] [] pos') none pos.line X.env = pure false := by rfl) :
    PS X (.Expr (.Call (.Attribute (.Name x px) "append" apos) [e] [] pos') pos) (upS X.K T W (sApp j re)) :=
  PSi (ps_expr (pe_bm PySem.F.plainAttrs_list PySem.F.slot_list_append PySem.F.type_list_append mt_append (pe_var hN hv hd hcd) (pa_cons he pa_nil hs) hbase hfew hline hs hplain) hsw) fun Dn σ H h => by
  obtain ⟨F, G, δ, Dd, R, hr, k⟩ := h
  unfold sApp at hr
  split at hr
  · rename_i p0 xs0 hj0
    obtain ⟨h0, _, us0, h1, _⟩ := R.oget hj0
    refine ⟨_, h0, .inl ⟨rfl, us0, .inl (.inl h1)⟩, F, G, δ, Dd.xe, _, R, hr, k.x, fun G1 H1 w d δ1 e1 R1 p1 q1 => ?_⟩
    split at q1
    · rename_i p xs hj
      obtain ⟨h2, h3, us, h4, h5⟩ := R1.oget hj
      rw [h0] at h2
      cases h2
      obtain ⟨hz, q⟩ := q1
      refine ⟨p0, us, w, rfl, rfl, h4, by rw [h5.length]; exact hz, k.nx G1 _ σ _ e1 (R1.mut hj (h5.append (es := [d]) ⟨w, [], rfl, p1, rfl⟩)) q⟩
    · exact q1.elim
  · exact hr.elim
theorem RpL.setN {K : PySem.W.Frag} {G : Hp} {xs : List D} {us : List V} {i : Int} {n : Nat} (h : RpL K G xs us) (e : ixN xs.length i = some n) : ixN us.length i = some n := by
  rw [h.length]
  exact e
theorem ds_setIx (j : Nat) {x : Str} {px pos' : Pos} (hb : PE X b (up X.K T W ri)) (he : PE X e (up X.K T W re)) (hN : X.N[j]? = some x := by rfl) (hv : Vis X.env.scope x := by first | exact Or.inl rfl | exact Or.inr (Or.inl rfl) | exact Or.inr (Or.inr rfl)) (hd : (x == ("__debug__" : Str)) = false := by decide)
    (hcd : (x == ("__classdict__" : Str)) = false := by decide) (hsto : ∀ v, assign (.Subscript (.Name x px) b pos') X.env v = (do
      let ov ← holding [v] (eval (.Name x px) X.env)
      let iv ← holding [v, ov] (eval b X.env)
      standAt pos'
      holding [v, ov, iv] (setItem ov iv v)
      release [v, ov, iv] []) := by intro _; rfl) (hs : swapsWithSole [.Subscript (.Name x px) b pos'] e pos.line X.env = pure false := by rfl) (hw : swappedStores [.Subscript (.Name x px) b pos'] e X.env = pure none := by rfl) :
    PS X (.Assign [.Subscript (.Name x px) b pos'] e pos) (upS X.K T W (sSetIx j ri re)) :=
  PSi (ps_asg he (pg_sub (pe_var hN hv hd hcd) hb set_list hsto) hs hw) fun Dn σ H h => by
  obtain ⟨F, G, δ, Dd, R, hr, k⟩ := h
  unfold sSetIx at hr
  split at hr
  · rename_i p0 xs0 hj0
    obtain ⟨h0, _, us0, h1, _⟩ := R.oget hj0
    refine ⟨F, G, δ, Dd.xe, _, R, hr, k.x, fun G1 H1 w d δ1 e1 R1 p1 q1 => ?_⟩
    refine ⟨_, h0, F, G1, δ1, Dd.xe, _, R1, q1, (k.mono e1).x, fun G2 H2 w2 d2 δ2 e2 R2 p2 q2 => ?_⟩
    split at q2
    · rename_i p xs i hj
      obtain ⟨h2, h3, us, h4, h5⟩ := R2.oget hj
      rw [h0] at h2
      cases h2
      obtain ⟨n, hn, q⟩ := q2
      exact ⟨p0, us, _, n, rfl, p2, h4, h5.setN hn, k.nx G2 _ σ _ (e1.trans e2) (R2.mut hj (h5.set n (Rp.mono e2 _ _ p1))) q⟩
    · exact q2.elim
  · exact hr.elim
end
end DL


set_option Elab.async false
set_option linter.all false
set_option maxRecDepth 100000
set_option autoImplicit true
namespace DL
open PySem PySem.Spec PyProof.Rows L2

/-! ### re-basing a frame -/
section
variable {K : PySem.W.Frag} {F : Fm} {G G' H H' : Hp} {σ σ' : L2.St} {δ δ' : Ev}
def Fm.re (G H : Hp) (δ : Ev) : Fm := ⟨H, G, owns δ⟩
theorem Rel.rebase (R : Rel K T F G H σ δ) : Rel K T (Fm.re G H δ) G H σ δ := ⟨R.ex, R.sl, R.sep, fun p hp => .inl hp, fun a o _ h _ => h, fun a h => h, fun a _ _ h => h, R.tab⟩
theorem Rel.unbase (R : Rel K T F G H σ δ) (R' : Rel K T (Fm.re G H δ) G' H' σ' δ') : Rel K T F G' H' σ' δ' where
  ex := R'.ex
  sl := R'.sl
  sep := R'.sep
  own := fun p hp => by
    rcases R'.own p hp with h | h
    · exact R.own p h
    · exact .inr fun z => h (R.there p z)
  keep := fun a o h1 h2 h3 => R'.keep a o (fun z => by
    rcases R.own a z with q | q
    · exact h1 q
    · exact q ⟨o, h2, h3⟩) (R.keep a o h1 h2 h3) h3
  there := fun a h => R'.there a (R.there a h)
  tab := R'.tab
  gh := fun a h0 h1 h2 => R.gh a h0 h1 (R'.gh a (fun z => (R.own a z).elim h0 fun q => q h1) (R.there a h1) h2)
/-- an address of ours that no slot holds -/
theorem Rel.poke {p : Addr} {o : HO} {us : List V} (R : Rel K T F G H σ δ) (h1 : H p = some (.lst us)) (h2 : G p = none) (h3 : p ∉ owns δ) (h4 : ¬ nT F.H0 p) (ho : ∀ ps, o ≠ .tbl ps := by intro ps z; cases z) : Rel K T F G (upd H p o) σ δ where
  ex := Ex.mut R.ex h2
  sl := R.sl.mono (Ex.refl G) fun q hq o' _ a b => ⟨by rw [upd_ne (fun z => h3 (by rw [← z]; exact hq))]; exact a, b⟩
  sep := R.sep
  own := R.own
  keep := fun a o a1 a2 a3 => by
    rw [upd_ne (fun z => h4 ⟨o, by rw [← z]; exact a2, a3⟩)]
    exact R.keep a o a1 a2 a3
  tab := tabs_upd R.tab (by rw [h1]; intro ps; simp) (by rw [h1]; intro q z; have z := Option.some.inj z; unfold LamX.CodeO at z; cases z)
  there := fun a a1 => nT_un ho fun _ => R.there a a1
  gh := R.gh
end
/-! ### what is walked -/
def ItOk (K : PySem.W.Frag) (T : List (Addr × Str)) (G : Hp) (J : It) (xs : List D) : Prop := ∀ F G1 H1 σ1 δ1 i, Ex G G1 → Rel K T F G1 H1 σ1 δ1 →
  (xs.length ≤ i → J.stop i H1) ∧ ∀ x, xs[i]? = some x → J.go i H1 ∧ ∀ v H2, J.yld i H1 v H2 → ∃ G2, Ex G1 G2 ∧ Rel K T F G2 H2 σ1 δ1 ∧ Rp K G2 x v
def upI (K : PySem.W.Frag) (T : List (Addr × Str)) (W : WX) (r : DF) : TI := fun σ H R => ∃ F G δ Xc Qd, Rel K T F G H σ δ ∧ r Xc δ Qd ∧ XOk K T W F G σ Xc ∧ ∀ G' H' xs J δ', Ex G G' → Rel K T F G' H' σ δ' → ItOk K T G' J xs → Qd xs δ' → R J H'
theorem PIi {X : Cx} {tg it : Expr} {t t' : TI} (h : PI X tg it t) (k : ∀ σ H R, t' σ H R → t σ H R) : PI X tg it t' := ⟨fun pins s σ H R I q => h.run pins s σ H R I (k _ _ _ q)⟩
theorem itok_l {K : PySem.W.Frag} {G : Hp} {a : Addr} {xs : List D} {us : List V} (h : SqL K G a us) (p : RpL K G xs us) : ItOk K T G (Itl K a) xs := fun F G1 H1 σ1 δ1 i e R => by
  have h1 : SqL K H1 a us := ex_l (e.trans R.ex) h
  refine ⟨fun hi => ⟨us, h1, by rw [p.length]; exact hi⟩, fun x hx => ?_⟩
  obtain ⟨v, hv, pv⟩ := p.get hx
  refine ⟨⟨us, v, h1, hv⟩, fun w H2 ⟨e2, hw⟩ => ?_⟩
  subst e2
  have := hw us h1
  rw [hv] at this
  cases this
  exact ⟨G1, Ex.refl G1, R, Rp.mono e _ _ pv⟩
theorem itok_t {K : PySem.W.Frag} {G : Hp} {a : Addr} {xs : List D} {us : List V} (h : SqT K G a us) (p : RpL K G xs us) : ItOk K T G (Itt K a) xs := fun F G1 H1 σ1 δ1 i e R => by
  have h1 : SqT K H1 a us := ex_t (e.trans R.ex) h
  refine ⟨fun hi => ⟨us, h1, by rw [p.length]; exact hi⟩, fun x hx => ?_⟩
  obtain ⟨v, hv, pv⟩ := p.get hx
  refine ⟨⟨us, v, h1, hv⟩, fun w H2 ⟨e2, hw⟩ => ?_⟩
  subst e2
  have := hw us h1
  rw [hv] at this
  cases this
  exact ⟨G1, Ex.refl G1, R, Rp.mono e _ _ pv⟩
def rngD (lo : Int) (n : Nat) : List D := (List.range n).map fun (i : Nat) => D.int (lo + (i : Int))
theorem rngD_len (lo : Int) (n : Nat) : (rngD lo n).length = n := by unfold rngD; rw [List.length_map, List.length_range]
theorem rngD_get {lo : Int} {n i : Nat} {x : D} (h : (rngD lo n)[i]? = some x) : i < n ∧ x = .int (lo + (i : Int)) := by
  unfold rngD at h
  rw [List.getElem?_map] at h
  cases q : (List.range n)[i]? with
  | none => rw [q] at h; cases h
  | some j =>
    rw [q] at h
    obtain ⟨h1, h2⟩ := List.getElem?_eq_some_iff.mp q
    rw [List.length_range] at h1
    rw [List.getElem_range] at h2
    subst h2
    exact ⟨h1, (Option.some.inj h).symm⟩
theorem itok_r {K : PySem.W.Frag} {G : Hp} {lo : Int} {n : Nat} : ItOk K T G (Itr lo n) (rngD lo n) := fun F G1 H1 σ1 δ1 i e R => by
  rw [rngD_len]
  refine ⟨fun hi => hi, fun x hx => ?_⟩
  obtain ⟨h1, rfl⟩ := rngD_get hx
  exact ⟨h1, fun w H2 ⟨e2, hw⟩ => by subst e2; exact ⟨G1, Ex.refl G1, R, hw⟩⟩
def iSeqV (K : PySem.W.Frag) (tl : TE) : TI := fun σ H R => tl σ H fun x H1 => ∃ a, x = .ref a ∧ (((∃ xs, SqL K H1 a xs) ∧ R (Itl K a) H1) ∨ ((∃ xs, SqT K H1 a xs) ∧ R (Itt K a) H1))
theorem pi_seqV {X : Cx} {tg l : Expr} {tl : TE} (hl : PE X l tl) : PI X tg l (iSeqV X.K tl) := by
  refine ⟨fun pins s σ H R I h => ?_⟩
  refine thn (hl.run pins s σ H _ I h) fun v s1 ⟨x, H1, I1, r1, q1⟩ => ?_
  obtain ⟨a, e, ⟨⟨xs, hq⟩, q⟩ | ⟨⟨xs, hq⟩, q⟩⟩ := q1
  · subst e
    cases r1
    obtain ⟨its, rv, p, hz⟩ := I1.list hq
    refine wpAny_pyIter_list p.isList ?_
    refine ⟨s1.heap.objs.size, [s1.heap.objs.size], _, _, H1, rfl, I1.kept (t' := s1.toks) fun b o e => Heap.get?_push_of_some _ e, turn_list a _, ⟨_, Heap.get?_push_size _ rfl, rfl, rfl⟩, fun b hb => ?_, q⟩
    have e : b = s1.heap.objs.size := by simpa using hb
    subst e
    exact I1.fpOk (Nat.le_refl _) (I1.hok.fresh (Nat.le_refl _))
  · subst e
    cases r1
    obtain ⟨its, rv, p, hz⟩ := I1.tuple hq
    refine wpAny_pyIter_tuple (show s1.heap.IsTuple a its.toArray from p) ?_
    refine ⟨s1.heap.objs.size, [s1.heap.objs.size], _, _, H1, rfl, I1.kept (t' := s1.toks) fun b o e => Heap.get?_push_of_some _ e, turn_tuple a _, ⟨_, Heap.get?_push_size _ rfl, rfl, rfl⟩, fun b hb => ?_, q⟩
    have e : b = s1.heap.objs.size := by simpa using hb
    subst e
    exact I1.fpOk (Nat.le_refl _) (I1.hok.fresh (Nat.le_refl _))
def iSeq (r : DE) : DF := fun Xc δ Q => r Xc δ fun d δ' => match d with
  | .lst xs => Q xs δ'
  | .tup xs => Q xs δ'
  | .sq xs => Q xs δ'
  | _ => False
def iR1 (s : DF) : DF := fun Xc δ Q => s Xc δ fun xs δ' => match xs with
  | [.int n] => -(2 ^ 62) ≤ n ∧ n < 2 ^ 62 ∧ Q (rngD 0 n.toNat) δ'
  | _ => False
def iR2 (s : DF) : DF := fun Xc δ Q => s Xc δ fun xs δ' => match xs with
  | [.int m, .int n] => (-(2 ^ 62) ≤ m ∧ m < 2 ^ 62 ∧ -(2 ^ 62) ≤ n ∧ n < 2 ^ 62) ∧ Q (rngD m (n - m).toNat) δ'
  | _ => False
section
variable {X : Cx} {W : WX} {e : Expr} {re : DE} {sf : DF} {tg : Expr} {p pos : Pos}
theorem di_seq (h : PE X e (up X.K T W re)) : PI X tg e (upI X.K T W (iSeq re)) := PIi (pi_seqV h) fun σ H R h => by
  obtain ⟨F, G, δ, Xc, Qd, Rl, hr, hx, k⟩ := h
  refine ⟨F, G, δ, Xc, _, Rl, hr, hx, fun G1 H1 v d δ1 e1 R1 p1 q1 => ?_⟩
  cases d with
  | lst xs =>
    obtain ⟨a, us, rfl, h1, h2⟩ := p1
    exact ⟨a, rfl, .inl ⟨⟨us, ex_lt R1.ex h1⟩, k G1 H1 xs _ δ1 e1 R1 (itok_l (SqL.of h1) h2) q1⟩⟩
  | sq xs =>
    obtain ⟨a, us, rfl, h1, h2⟩ := p1
    exact ⟨a, rfl, .inl ⟨⟨us, ex_l R1.ex h1⟩, k G1 H1 xs _ δ1 e1 R1 (itok_l h1 h2) q1⟩⟩
  | tup xs =>
    obtain ⟨a, us, rfl, h1, h2⟩ := p1
    exact ⟨a, rfl, .inr ⟨⟨us, ex_t R1.ex h1⟩, k G1 H1 xs _ δ1 e1 R1 (itok_t h1 h2) q1⟩⟩
  | _ => exact q1.elim
theorem di_r1 {a : Expr} (hm : X.mg "range" = none) (ha : PA X [a] (upA X.K T W sf)) (hg : Gl X "range" := by rfl) (hs : starEach [a] X.env = [(false, eval a X.env)] := by rfl) : PI X tg (.Call (.Name "range" p) [a] [] pos) (upI X.K T W (iR1 sf)) := PIi (pi_range1 hg hm ha hs) fun σ H R h => by
  obtain ⟨F, G, δ, Xc, Qd, Rl, hr, hx, k⟩ := h
  refine ⟨F, G, δ, Xc, _, Rl, hr, hx, fun G1 H1 vs ds δ1 e1 R1 p1 q1 => ?_⟩
  split at q1
  · obtain ⟨v, rfl, h1⟩ := one_of p1
    obtain rfl := h1
    obtain ⟨a1, a2, q⟩ := q1
    exact ⟨_, rfl, a1, a2, k G1 H1 _ _ δ1 e1 R1 itok_r q⟩
  · exact q1.elim
theorem di_r2 {a b : Expr} (hm : X.mg "range" = none) (ha : PA X [a, b] (upA X.K T W sf)) (hg : Gl X "range" := by rfl) (hs : starEach [a, b] X.env = [(false, eval a X.env), (false, eval b X.env)] := by rfl) (hs2 : starEach [b] X.env = [(false, eval b X.env)] := by rfl) :
    PI X tg (.Call (.Name "range" p) [a, b] [] pos) (upI X.K T W (iR2 sf)) := PIi (pi_range2 hg hm ha hs hs2) fun σ H R h => by
  obtain ⟨F, G, δ, Xc, Qd, Rl, hr, hx, k⟩ := h
  refine ⟨F, G, δ, Xc, _, Rl, hr, hx, fun G1 H1 vs ds δ1 e1 R1 p1 q1 => ?_⟩
  split at q1
  · obtain ⟨v, w, rfl, h1, h2⟩ := two_of p1
    obtain rfl := h1
    obtain rfl := h2
    obtain ⟨a1, q⟩ := q1
    exact ⟨_, _, rfl, a1, k G1 H1 _ _ δ1 e1 R1 itok_r q⟩
  · exact q1.elim
end
/-! ### targets -/
abbrev DG := D → Ev → (Ev → Prop) → Prop
def upG (K : PySem.W.Frag) (T : List (Addr × Str)) (vs : List Nat) (r : DG) : TG := fun v σ H Q => ∃ F G δ x Qd, Rel K T F G H σ δ ∧ Rp K G x v ∧ r x δ Qd ∧ ∀ σ' δ', Rel K T F G H σ' δ' → wipe σ' vs = wipe σ vs → Qd δ' → Q σ' H
def gN (i : Nat) : DG := fun x δ Q => Q (δ.set i (.d x))
def gLs : List Nat → List D → Ev → (Ev → Prop) → Prop
  | [], xs, δ, Q => xs = [] ∧ Q δ
  | i :: is, xs, δ, Q => match xs with
    | x :: r => gLs is r (δ.set i (.d x)) Q
    | [] => False
def gT (is : List Nat) : DG := fun x δ Q => match x with
  | .tup xs => gLs is xs δ Q
  | _ => False
theorem PGi {X : Cx} {tg : Expr} {t t' : TG} (h : PG X tg t) (k : ∀ v σ H Q, t' v σ H Q → t v σ H Q) : PG X tg t' := ⟨fun pins s σ H v u Q I r q => h.run pins s σ H v u Q I r (k _ _ _ _ q)⟩
theorem wipe_set {i : Nat} {w : Option V} {σ : L2.St} : ∀ {vs : List Nat}, i ∈ vs → wipe (σ.set i w) vs = wipe σ vs
  | v :: vs, h => by
    show (wipe (σ.set i w) vs).set v none = (wipe σ vs).set v none
    by_cases hm : i ∈ vs
    · rw [wipe_set hm]
    · have e : i = v := by
        rcases List.mem_cons.mp h with z | z
        · exact z
        · exact absurd z hm
      subst e
      have aux : ∀ us : List Nat, i ∉ us → wipe (σ.set i w) us = (wipe σ us).set i w := fun us => by
        induction us with
        | nil => intro _; rfl
        | cons u us ih =>
          intro hn
          show (wipe (σ.set i w) us).set u none = ((wipe σ us).set u none).set i w
          rw [ih (fun z => hn (List.mem_cons_of_mem _ z)), List.set_comm _ _ (fun z => hn (by rw [z]; exact List.mem_cons_self))]
      rw [aux vs hm, List.set_set]
section
variable {X : Cx}
theorem dg_n {i : Nat} {x : Str} {pos : Pos} {vs : List Nat} (hv : i ∈ vs) (hN : X.N.Nodup) (hi : X.N[i]? = some x) (hx : Loc X.env.scope x) (hf : X.fn x = true ∨ X.env.scope.names.lookup x = some .local := by first | exact .inl rfl | exact .inr rfl | assumption) :
    PG X (.Name x pos) (upG X.K T vs (gN i)) := PGi (pg_name hN hi hx hf) fun v σ H Q h => by
  obtain ⟨F, G, δ, x, Qd, R, p, hr, k⟩ := h
  exact k _ _ (R.setd p) (wipe_set hv) hr
/-- the reading of names in a row -/
def upGs (K : PySem.W.Frag) (T : List (Addr × Str)) (vs is : List Nat) : TGs := fun us σ H Q => ∃ F G δ xs Qd, Rel K T F G H σ δ ∧ RpL K G xs us ∧ gLs is xs δ Qd ∧ ∀ σ' δ', Rel K T F G H σ' δ' → wipe σ' vs = wipe σ vs → Qd δ' → Q σ' H
theorem dgs_nil {vs : List Nat} : PGs X [] (upGs X.K T vs []) := ⟨fun pins s σ H vs' us Q I r h => pgs_nil.run pins s σ H vs' us Q I r (by
  obtain ⟨F, G, δ, xs, Qd, R, p, hr, k⟩ := h
  obtain ⟨rfl, q⟩ := hr
  exact ⟨p, k σ δ R rfl q⟩)⟩
theorem dgs_cons {i : Nat} {x : Str} {pos : Pos} {vs is : List Nat} {es : List Expr} (hv : i ∈ vs) (hN : X.N.Nodup) (hi : X.N[i]? = some x) (hx : Loc X.env.scope x) (h2 : PGs X es (upGs X.K T vs is))
    (hf : X.fn x = true ∨ X.env.scope.names.lookup x = some .local := by first | exact .inl rfl | exact .inr rfl | assumption)
    (hs : (assignEach (.Name x pos :: es) X.env).map (·.2) = assign (.Name x pos) X.env :: (assignEach es X.env).map (·.2) := by rfl) : PGs X (.Name x pos :: es) (upGs X.K T vs (i :: is)) :=
  ⟨fun pins s σ H vs' us Q I r h => (pgs_cons (pg_name hN hi hx hf) h2 hs).run pins s σ H vs' us Q I r (by
    obtain ⟨F, G, δ, xs, Qd, R, p, hr, k⟩ := h
    cases xs with
    | nil => exact hr.elim
    | cons d ds =>
      obtain ⟨v, r', rfl, p1, p2⟩ := p
      exact ⟨v, r', rfl, F, G, _, ds, Qd, R.setd p1, p2, hr, fun σ' δ' R' hw q => k σ' δ' R' (hw.trans (wipe_set hv)) q⟩)⟩
theorem dg_t {es : List Expr} {k : Nat} {pos : Pos} {vs is : List Nat} (hc : X.calm = true) (h : PGs X es (upGs X.K T vs is))
    (hn : (assignEach es X.env).length = is.length := by rfl) (hst : (assignEach es X.env).findIdx? (·.1) = none := by rfl) : PG X (.Tuple es k pos) (upG X.K T vs (gT is)) := PGi (pg_tup hc h hn hst) fun v σ H Q hh => by
  obtain ⟨F, G, δ, x, Qd, R, p, hr, k⟩ := hh
  cases x with
  | tup xs =>
    obtain ⟨a, us, rfl, h1, h2⟩ := p
    have hl : ∀ (is : List Nat) (xs : List D) (δ : Ev), gLs is xs δ Qd → xs.length = is.length := fun is => by
      induction is with
      | nil => intro xs δ h; rw [h.1] <;> rfl
      | cons i is ih =>
        intro xs δ h
        cases xs with
        | nil => exact h.elim
        | cons d ds => rw [List.length_cons, List.length_cons, ih ds _ h]
    exact ⟨a, us, rfl, ex_t R.ex h1, by rw [h2.length]; exact hl is xs δ hr, F, G, δ, xs, Qd, R, h2, hr, k⟩
  | _ => exact hr.elim
end
theorem wipe_wipe {σ : L2.St} : ∀ vs : List Nat, wipe (wipe σ vs) vs = wipe σ vs := fun vs => by
  have aux : ∀ (us : List Nat) (τ : L2.St), (∀ i ∈ us, i ∈ vs) → wipe (wipe τ us) vs = wipe τ vs := fun us => by
    induction us with
    | nil => intro τ _; rfl
    | cons u us ih =>
      intro τ h
      show wipe ((wipe τ us).set u none) vs = _
      rw [wipe_set (h u List.mem_cons_self)]
      exact ih τ fun i hi => h i (List.mem_cons_of_mem _ hi)
  exact aux vs σ fun _ h => h
/-! ### for -/
def forG (xs : List D) (g : DG) (body : DS) (Dd : DEnds) (δ1 : Ev) : Prop := ∃ I : Nat → Ev → Prop, I 0 δ1 ∧
  (∀ i x δ2, xs[i]? = some x → I i δ2 → g x δ2 fun δ3 => body { Dd with nx := I (i + 1), ct := I (i + 1), bk := Dd.nx } δ3) ∧ ∀ δ2, I xs.length δ2 → Dd.nx δ2
def sFor (ri : DF) (g : DG) (body : DS) : DS := fun Dd δ => ri Dd.xe δ fun xs δ1 => forG xs g body Dd δ1
section
variable {X : Cx} {W : WX}
theorem ds_for {iter tg : Expr} {body : List Stmt} {ri : DF} {g : DG} {vs : List Nat} {r : DS} {pos : Pos} (hp : PassesOwn (model X.prog X.w) X.A X.env X.xe) (hc : X.calm = true) (hi : PI X tg iter (upI X.K T W ri)) (hg : PG X tg (upG X.K T vs g)) (hb : PSs X body (upS X.K T W r))
    (hs : ∀ x, foldedSetIterable iter X.env x = pure x := by intro _; rfl) : PS X (.For tg iter body [] pos) (upS X.K T W (sFor ri g r)) := PSi (ps_for hp hc hi hg hb hs) fun Dn σ H h => by
  obtain ⟨F, G, δ, Dd, R, hr, k⟩ := h
  refine ⟨F, G, δ, Dd.xe, _, R, hr, k.x, fun G1 H1 xs J δ1 e1 R1 hJ ⟨I, i0, is, id⟩ => ?_⟩
  refine ⟨fun i m σ' H' => m = xs.length - i ∧ i ≤ xs.length ∧ ∃ G' δ', Ex G1 G' ∧ Rel X.K T F G' H' σ' δ' ∧ I i δ', ⟨xs.length, by simp, Nat.zero_le _, G1, δ1, Ex.refl G1, R1, i0⟩, ?_⟩
  rintro i m σ2 H2 ⟨rfl, hi, G2, δ2, e2, R2, h2⟩
  obtain ⟨s1, s2⟩ := hJ F G2 H2 σ2 δ2 i e2 R2
  by_cases hlt : i < xs.length
  · obtain ⟨g1, g2⟩ := s2 xs[i] (List.getElem?_eq_getElem hlt)
    refine .inr ⟨g1, fun σ' H' => ∃ G' δ', Ex G1 G' ∧ Rel X.K T F G' H' σ' δ' ∧ I (i + 1) δ', fun σ' H' q => ⟨xs.length - (i + 1), by omega, rfl, hlt, q⟩, fun v H3 hy => ?_⟩
    obtain ⟨G3, e3, R3, p3⟩ := g2 v H3 hy
    refine ⟨F, G3, δ2, _, _, R3, p3, is i _ δ2 (List.getElem?_eq_getElem hlt) h2, fun σ4 δ4 R4 _ q4 => ?_⟩
    have kk := k.mono ((e1.trans e2).trans e3)
    exact ⟨F, G3, δ4, _, R4, q4, fun G' H' σ' δ' e R' q => ⟨G', δ', (e2.trans e3).trans e, R', q⟩, kk.rt, kk.nx, fun G' H' σ' δ' e R' q => ⟨G', δ', (e2.trans e3).trans e, R', q⟩, kk.xe⟩
  · have e : i = xs.length := by omega
    subst e
    exact .inl ⟨s1 (Nat.le_refl _), k.nx G2 H2 σ2 δ2 (e1.trans e2) R2 (id δ2 h2)⟩
end
/-! ### comprehensions -/
def wipeD (δ : Ev) : List Nat → Ev
  | [] => δ
  | v :: vs => (wipeD δ vs).set v .u
def keepD : Option Sl → Sl
  | some (.d x) => .d x
  | _ => .u
def backD (δ1 δ2 : Ev) : List Nat → Ev
  | [] => δ2
  | v :: vs => (backD δ1 δ2 vs).set v (keepD δ1[v]?)
def lcG (xs : List D) (g : DG) (t : DT) (re : DE) (vs : List Nat) (δ1 : Ev) (Q : List D → Ev → Prop) : Prop := ∃ I : Nat → List D → Ev → Prop, I 0 [] (wipeD δ1 vs) ∧
  (∀ i x acc δ2, xs[i]? = some x → I i acc δ2 → g x δ2 fun δ3 => t (fun _ _ => False) δ3 fun b δ4 => (b = true → re (fun _ _ => False) δ4 fun y δ5 => acc.length < sizeLine ∧ I (i + 1) (acc ++ [y]) (wipeD δ5 vs)) ∧
    (b = false → I (i + 1) acc (wipeD δ4 vs))) ∧
  ∀ acc δ2, I xs.length acc δ2 → Q acc (backD δ1 δ2 vs)
def fLc (ri : DF) (g : DG) (t : DT) (re : DE) (vs : List Nat) : DF := fun Xc δ Q => ri Xc δ fun xs δ1 => lcG xs g t re vs δ1 Q
section
variable {K : PySem.W.Frag} {F : Fm} {G G' H H' : Hp} {σ σ' : L2.St} {δ δ' : Ev}
theorem Rel.wipe (R : Rel K T F G H σ δ) : ∀ vs : List Nat, Rel K T F G H (L2.wipe σ vs) (wipeD δ vs)
  | [] => R
  | v :: vs => (Rel.wipe R vs).setu
theorem Rel.slot {i : Nat} {w : Option V} {s : Sl} (R : Rel K T F G H (σ.set i w) δ) (hs : s.own = none) (h : i < σ.length → ∀ v, σ[i]? = some v → SlOk K G H s v) : Rel K T F G H σ (δ.set i s) where
  ex := R.ex
  sl := by
    by_cases hi : i < σ.length
    · have q := R.sl.set i (h hi σ[i] (List.getElem?_eq_getElem hi))
      rw [List.set_set, List.set_getElem_self] at q
      exact q
    · have e1 : σ.set i w = σ := List.set_eq_of_length_le (by omega)
      have q := R.sl
      rw [e1] at q
      have e2 : δ.set i s = δ := List.set_eq_of_length_le (by rw [← q.len]; omega)
      rw [e2]
      exact q
  sep := R.sep.sublist (owns_set_none hs δ i)
  own := fun p hp => R.own p ((owns_set_none hs δ i).subset hp)
  keep := R.keep
  there := R.there
  gh := R.gh
  tab := R.tab
theorem backD_set {δ1 : Ev} {v : Nat} {s : Sl} : ∀ (vs : List Nat) (δ2 : Ev), v ∉ vs → backD δ1 (δ2.set v s) vs = (backD δ1 δ2 vs).set v s
  | [], _, _ => rfl
  | u :: vs, δ2, h => by
    show (backD δ1 (δ2.set v s) vs).set u _ = ((backD δ1 δ2 vs).set u _).set v s
    rw [backD_set vs δ2 (fun z => h (List.mem_cons_of_mem _ z)), List.set_comm _ _ (fun z => h (by rw [z]; exact List.mem_cons_self))]
theorem Rel.back {δ1 : Ev} {G1 H1 : Hp} (R1 : Rel K T F G1 H1 σ δ1) (e : Ex G1 G') : ∀ (vs : List Nat) (δ2 : Ev), vs.Nodup → Rel K T F G' H' (L2.wipe σ vs) δ2 → Rel K T F G' H' σ (backD δ1 δ2 vs)
  | [], _, _, R2 => R2
  | v :: vs, δ2, nd, R2 => by
    obtain ⟨n1, n2⟩ := List.nodup_cons.mp nd
    have kn : (keepD δ1[v]?).own = none := by
      cases q : δ1[v]? with
      | none => rfl
      | some s => cases s <;> rfl
    have R3 : Rel K T F G' H' (L2.wipe σ vs) (δ2.set v (keepD δ1[v]?)) := by
      refine Rel.slot (w := none) R2 kn fun hi w hw => ?_
      rw [wipe_out n1] at hw
      cases q : δ1[v]? with
      | none => trivial
      | some s =>
        cases s with
        | u => trivial
        | o p xs => trivial
        | h p ks vs => trivial
        | k p f ks vs => trivial
        | d x =>
          obtain ⟨u, h1, h2⟩ := R1.dget q
          rw [hw] at h1
          cases h1
          exact ⟨u, rfl, Rp.mono e _ _ h2⟩
    have R4 := Rel.back R1 e vs _ n2 R3
    rw [backD_set vs δ2 n1] at R4
    exact R4
end
section
variable {X : Cx} {W : WX}
theorem up_lc {ri : DF} {g : DG} {t : DT} {re : DE} {vs : List Nat} (nd : vs.Nodup) : ∀ σ H Q, upF X.K T W (fLc ri g t re vs) σ H Q →
    tLc (upI X.K T W ri) (upG X.K T vs g) (upT X.K T (fun _ _ _ _ => False) t) (up X.K T (fun _ _ _ _ => False) re) vs σ H Q := fun σ H Q h => by
  obtain ⟨F, G, δ, Xc, Qd, R, hr, hx, k⟩ := h
  refine ⟨F, G, δ, Xc, _, R, hr, hx, fun G1 H1 xs J δ1 e1 R1 hJ ⟨I, i0, is, id⟩ Dl hD => ?_⟩
  obtain ⟨z1, z2⟩ := R1.fresh_own (nT_no hD)
  refine ⟨fun i m H' => m = xs.length - i ∧ i ≤ xs.length ∧ ∃ G' δ' acc us, Ex G1 G' ∧ Rel X.K T F G' H' (wipe σ vs) δ' ∧ G' Dl = none ∧ H' Dl = some (.lst us) ∧ RpL X.K G' acc us ∧ Dl ∉ owns δ' ∧ I i acc δ',
    ⟨xs.length, by simp, Nat.zero_le _, G1, wipeD δ1 vs, [], [], Ex.refl G1, (R1.temp hD).wipe vs, R1.ex.back hD, upd_same, rfl, ?_, i0⟩, ?_⟩
  · have sub : ∀ vs : List Nat, (owns (wipeD δ1 vs)).Sublist (owns δ1) := fun vs => by
      induction vs with
      | nil => exact List.Sublist.refl _
      | cons v vs ih => exact (owns_set_none rfl _ v).trans ih
    exact fun z => z2 ((sub vs).subset z)
  rintro i m H2 ⟨rfl, hi, G2, δ2, acc, us, e2, R2, gD, hD2, pa, nD, h2⟩
  obtain ⟨s1, s2⟩ := hJ F G2 H2 _ δ2 i e2 R2
  by_cases hlt : i < xs.length
  · obtain ⟨g1, _⟩ := s2 xs[i] (List.getElem?_eq_getElem hlt)
    refine .inr ⟨g1, fun H' => ∃ G' δ' acc us, Ex G1 G' ∧ Rel X.K T F G' H' (wipe σ vs) δ' ∧ G' Dl = none ∧ H' Dl = some (.lst us) ∧ RpL X.K G' acc us ∧ Dl ∉ owns δ' ∧ I (i + 1) acc δ', fun H' q => ⟨xs.length - (i + 1), by omega, rfl, hlt, q⟩, fun v H3 hy => ?_⟩
    -- the turn, the frame taken at its beginning
    obtain ⟨_, g2⟩ := (hJ (Fm.re G2 H2 δ2) G2 H2 _ δ2 i e2 R2.rebase).2 xs[i] (List.getElem?_eq_getElem hlt)
    obtain ⟨G3, e3, R3, p3⟩ := g2 v H3 hy
    have stay : ∀ {G' H' σ' δ'}, Rel X.K T (Fm.re G2 H2 δ2) G' H' σ' δ' → G' Dl = none ∧ H' Dl = some (.lst us) ∧ Dl ∉ owns δ' := fun {G' H' σ' δ'} R' => by
      refine ⟨?_, R'.keep Dl _ nD hD2 (fun _ z => nomatch z), fun z => ?_⟩
      · cases q : G' Dl with
        | none => rfl
        | some o =>
          refine absurd gD ?_
          exact R'.gh Dl nD (nT_l hD2) (by rw [q]; simp)
      · rcases R'.own Dl z with q | q
        · exact nD q
        · exact q (nT_l hD2)
    refine ⟨_, G3, δ2, _, _, R3, p3, is i _ acc δ2 (List.getElem?_eq_getElem hlt) h2, fun σ4 δ4 R4 hw q4 => ⟨hw.trans ?_, ?_⟩⟩
    · exact wipe_wipe vs
    refine ⟨_, G3, δ4, _, _, R4, q4, (fun _ _ _ _ _ _ z => z.elim), fun G5 H5 b δ5 e5 R5 q5 => ?_⟩
    have ws : ∀ {δ' : Ev} {G' H' : Hp}, Rel X.K T (Fm.re G2 H2 δ2) G' H' σ4 δ' → Rel X.K T (Fm.re G2 H2 δ2) G' H' (wipe σ vs) (wipeD δ' vs) := fun {δ' G' H'} R' => by
      have q := R'.wipe vs
      rw [hw.trans (wipe_wipe vs)] at q
      exact q
    cases b with
    | true =>
      refine iteT ⟨_, G5, δ5, _, _, R5, q5.1 rfl, (fun _ _ _ _ _ _ z => z.elim), fun G6 H6 y d δ6 e6 R6 p6 q6 => ?_⟩
      obtain ⟨a1, a2, a3⟩ := stay (ws R6)
      refine ⟨us, (stay R6).2.1, by rw [pa.length]; exact q6.1, G6, wipeD δ6 vs, acc ++ [d], us ++ [y], ((e2.trans e3).trans e5).trans e6, ?_, a1, upd_same, ?_, a3, q6.2⟩
      · exact (R2.unbase (ws R6)).poke a2 a1 a3 z1
      · exact (RpL.mono ((e3.trans e5).trans e6) _ _ pa).append (es := [d]) ⟨y, [], rfl, p6, rfl⟩
    | false =>
      obtain ⟨a1, a2, a3⟩ := stay (ws R5)
      exact iteF ⟨G5, wipeD δ5 vs, acc, us, (e2.trans e3).trans e5, R2.unbase (ws R5), a1, a2, RpL.mono (e3.trans e5) _ _ pa, a3, q5.2 rfl⟩
  · have e : i = xs.length := by omega
    subst e
    refine .inl ⟨s1 (Nat.le_refl _), k G2 H2 Dl us acc _ (e1.trans e2) (R1.back e2 vs δ2 nd R2) gD hD2 pa z1 ?_ (id acc δ2 h2)⟩
    have sub : ∀ vs : List Nat, (owns (backD δ1 δ2 vs)).Sublist (owns δ2) := fun vs => by
      induction vs with
      | nil => exact List.Sublist.refl _
      | cons v vs ih =>
        refine (owns_set_none ?_ _ v).trans ih
        cases q : δ1[v]? with
        | none => rfl
        | some s => cases s <;> rfl
    exact fun z => nD ((sub vs).subset z)
theorem dts_nil : PTs X [] (upT X.K T W fun _ δ Q => Q true δ) := ⟨fun pins s σ H Q I h => pts_nil.run pins s σ H Q I (by
  obtain ⟨F, G, δ, Xc, Qd, R, hr, hx, k⟩ := h
  exact k G H true δ (Ex.refl G) R hr)⟩
theorem dts_one {c : Expr} {t : DT} (h : PT X c (upT X.K T W t)) : PTs X [c] (upT X.K T W t) := pts_one h
def tYesD : DT := fun _ δ Q => Q true δ
theorem df_lc {elt tg iter : Expr} {ifs : List Expr} {scope : Scope} {own : List (Str × Nat)} {pos : Pos} {ri : DF} {g : DG} {t : DT} {re : DE} (hc : X.calm = true) (hN : X.N.Nodup) (nd : (own.map (·.2)).Nodup) (hi : PI X tg iter (upI X.K T W ri)) (ok : BlkOk X.N X.env.scope scope own)
    (hg : ∀ (s : Shared) (H : Hp) (C : Addr) (cl : List (Str × Addr)) (fp : List Addr), PG (X.blk s H scope (compEnvC scope cl C X.env) fp) tg (upG X.K T (own.map (·.2)) g))
    (ht : ∀ (s : Shared) (H : Hp) (C : Addr) (cl : List (Str × Addr)) (fp : List Addr), PTs (X.blk s H scope (compEnvC scope cl C X.env) fp) ifs (upT X.K T (fun _ _ _ _ => False) t))
    (he : ∀ (s : Shared) (H : Hp) (C : Addr) (cl : List (Str × Addr)) (fp : List Addr), PE (X.blk s H scope (compEnvC scope cl C X.env) fp) elt (up X.K T (fun _ _ _ _ => False) re)) (hs : ∀ x, foldedSetIterable iter X.env x = pure x := by intro _; rfl) :
    PE X (.ListComp elt [⟨tg, iter, ifs, 0⟩] scope pos) (upF X.K T W (fLc ri g t re (own.map (·.2)))) := PEi (pe_lc hc hN hi ok hg ht he hs) (up_lc nd)
end
end DL


set_option Elab.async false
set_option linter.all false
set_option maxRecDepth 100000
set_option autoImplicit true
namespace DL
open PySem PySem.Spec PyProof.Rows L2

/-! ### promises over data -/
inductive Rf where
  | d (x : D) | f (xs : List D)
structure Post (T : List (Addr × Str)) (G H : Hp) (B : List Addr) (G' H' : Hp) : Prop where
  e1 : Ex G G'
  e2 : Ex G' H'
  keep : ∀ a o, a ∉ B → H a = some o → (∀ ps, o ≠ .tbl ps) → H' a = some o
  tab : Tb T G' H'
  there : ∀ a, nT H a → nT H' a
  gh : ∀ a, a ∉ B → nT H a → G' a ≠ none → G a ≠ none
def RvN (K : PySem.W.Frag) (H G' H' : Hp) : Rf → V → Prop
  | .d x, v => Rp K G' x v
  | .f xs, v => ∃ p us, v = .ref p ∧ (¬ nT H p) ∧ G' p = none ∧ H' p = some (.lst us) ∧ RpL K G' xs us
/-- of data arguments -/
abbrev FS := List D → (Rf → Prop) → (Addr → Prop) → Prop
/-- the first argument a list that may be changed -/
abbrev FSB := List D → List D → (Rf → List D → Prop) → (Addr → List D → Prop) → Prop
def spA (K : PySem.W.Frag) (T : List (Addr × Str)) (n : Nat) (S : FS) : Sp := fun vs H Q E => ∃ G ds Qd Ed, ds.length = n ∧ Tb T G H ∧ Ex G H ∧ RpL K G ds vs ∧ S ds Qd Ed ∧
  (∀ G' H' v rv, Post T G H [] G' H' → RvN K H G' H' rv v → Qd rv → Q v H') ∧ ∀ G' H' C, Post T G H [] G' H' → Ed C → E (.ref C) none H'
def spB (K : PySem.W.Frag) (T : List (Addr × Str)) (n : Nat) (S : FSB) : Sp := fun vs H Q E => ∃ G p us xs vs' ds Qd Ed, vs = .ref p :: vs' ∧ ds.length + 1 = n ∧ Tb T G H ∧ Ex G H ∧ G p = none ∧ H p = some (.lst us) ∧ RpL K G xs us ∧ RpL K G ds vs' ∧ S xs ds Qd Ed ∧
  (∀ G' H' v rv xs' us', Post T G H [p] G' H' → G' p = none → H' p = some (.lst us') → RpL K G' xs' us' → RvN K H G' H' rv v → Qd rv xs' → Q v H') ∧
  ∀ G' H' C xs' us', Post T G H [p] G' H' → G' p = none → H' p = some (.lst us') → RpL K G' xs' us' → Ed C xs' → E (.ref C) none H'
section
variable {K : PySem.W.Frag} {F : Fm} {G G' H H' : Hp} {σ σ' : L2.St} {δ δ' : Ev}
theorem Rel.post (R : Rel K T F G H σ δ) (p : Post T G H [] G' H') : Rel K T F G' H' σ δ := R.growN p.e1 (fun a o h n => p.keep a o (fun z => nomatch z) h n) p.e2 (fun a h1 h2 => p.gh a (fun z => nomatch z) h1 h2) p.tab
theorem Rel.postB {j : Nat} {q : Addr} {xs xs' : List D} {us' : List V} (R : Rel K T F G H σ δ) (e : δ[j]? = some (.o q xs)) (p : Post T G H [q] G' H') (h1 : G' q = none) (h2 : H' q = some (.lst us')) (h3 : RpL K G' xs' us') : Rel K T F G' H' σ (δ.set j (.o q xs')) := by
  obtain ⟨_, _, us, h4, _⟩ := R.oget e
  have R1 : Rel K T F G' (upd H' q (.lst us)) σ δ := R.growN p.e1 (fun a o h n => by
    by_cases z : a = q
    · rw [z, upd_same, ← h4, ← z, h]
    · rw [upd_ne z]
      exact p.keep a o (by simpa using z) h n) (Ex.mut p.e2 h1) (fun a h2 h3 => p.gh a (fun z => h3 (by rw [List.mem_singleton.mp z]; exact h1)) h2 h3) (tabs_upd p.tab (by rw [h2]; intro ps; simp) (by rw [h2]; intro q z; have z := Option.some.inj z; unfold LamX.CodeO at z; cases z))
  have R2 := R1.mut (us := us') e h3
  have : upd (upd H' q (.lst us)) q (.lst us') = H' := by
    rw [upd_upd]
    funext a
    by_cases z : a = q
    · rw [z, upd_same, h2]
    · rw [upd_ne z]
  rw [this] at R2
  exact R2
end
def rvD (Q : D → Ev → Prop) (δ : Ev) : Rf → Prop
  | .d x => Q x δ
  | .f xs => Q (.lst xs) δ
def rvF (Q : List D → Ev → Prop) (δ : Ev) : Rf → Prop
  | .d _ => False
  | .f xs => Q xs δ
def dCall (S : FS) (s : DF) : DE := fun Xc δ Q => s Xc δ fun ds δ1 => S ds (rvD Q δ1) fun C => Xc C δ1
def fCall (S : FS) (s : DF) : DF := fun Xc δ Q => s Xc δ fun ds δ1 => S ds (rvF Q δ1) fun C => Xc C δ1
def dCallO (j : Nat) (S : FSB) (s : DF) : DE := fun Xc δ Q => match δ[j]? with
  | some (.o _ _) => s Xc δ fun ds δ1 => match δ1[j]? with
    | some (.o p xs) => S xs ds (fun rv xs' => rvD Q (δ1.set j (.o p xs')) rv) fun C xs' => Xc C (δ1.set j (.o p xs'))
    | _ => False
  | _ => False
def fCallO (j : Nat) (S : FSB) (s : DF) : DF := fun Xc δ Q => match δ[j]? with
  | some (.o _ _) => s Xc δ fun ds δ1 => match δ1[j]? with
    | some (.o p xs) => S xs ds (fun rv xs' => rvF Q (δ1.set j (.o p xs')) rv) fun C xs' => Xc C (δ1.set j (.o p xs'))
    | _ => False
  | _ => False
theorem WE_def {W : WX} {σ : L2.St} {C : Value} {d : Option Addr} {H : Hp} : WE W σ C d H = W C d σ H := rfl
section
variable {X : Cx} {W : WX} {k n j : Nat} {f : Addr} {fd : FuncData} {ps : List Str} {S : FS} {SB : FSB} {x : Str} {p pos : Pos} {e : Expr} {es : List Expr} {s : DF}
theorem up_call : ∀ σ H Q, up X.K T W (dCall S s) σ H Q → (∀ ds Qd Ed, S ds Qd Ed → ds.length = n) → tCallS (spA X.K T n S) (WE W) (upA X.K T W s) σ H Q := fun σ H Q h hn => by
  obtain ⟨F, G, δ, Xc, Qd, R, hr, hx, k⟩ := h
  refine ⟨F, G, δ, Xc, _, R, hr, hx, fun G1 H1 vs ds δ1 e1 R1 p1 q1 => ⟨G1, ds, _, _, hn _ _ _ q1, R1.tab, R1.ex, p1, q1, fun G' H' v rv P rn q => ?_, fun G' H' C P q => ?_⟩⟩
  · have R2 := R1.post P
    cases rv with
    | d y => exact k G' H' v y δ1 (e1.trans P.e1) R2 rn q
    | f ys =>
      obtain ⟨a, us, rfl, a1, a2, a3, a4⟩ := rn
      obtain ⟨z1, z2⟩ := R1.fresh_own a1
      exact k _ H' _ (.lst ys) δ1 ((e1.trans P.e1).trans (Ex.new a2)) (frz1 R2 a2 a3 z1 z2) ⟨a, us, rfl, upd_same, RpL.mono (Ex.new a2) _ _ a4⟩ q
  · exact hx G' H' δ1 C (e1.trans P.e1) (R1.post P) q
theorem up_callF : ∀ σ H Q, upF X.K T W (fCall S s) σ H Q → (∀ ds Qd Ed, S ds Qd Ed → ds.length = n) → tCallS (spA X.K T n S) (WE W) (upA X.K T W s) σ H Q := fun σ H Q h hn => by
  obtain ⟨F, G, δ, Xc, Qd, R, hr, hx, k⟩ := h
  refine ⟨F, G, δ, Xc, _, R, hr, hx, fun G1 H1 vs ds δ1 e1 R1 p1 q1 => ⟨G1, ds, _, _, hn _ _ _ q1, R1.tab, R1.ex, p1, q1, fun G' H' v rv P rn q => ?_, fun G' H' C P q => ?_⟩⟩
  · have R2 := R1.post P
    cases rv with
    | d y => exact q.elim
    | f ys =>
      obtain ⟨a, us, rfl, a1, a2, a3, a4⟩ := rn
      obtain ⟨z1, z2⟩ := R1.fresh_own a1
      exact k G' H' a us ys δ1 (e1.trans P.e1) R2 a2 a3 a4 z1 z2 q
  · exact hx G' H' δ1 C (e1.trans P.e1) (R1.post P) q
theorem dx_call (F : FnOk X.prog X.w X.K X.mg X.base (L2.CX X.prog X.w) k f fd ps (spA X.K T n S)) (hr : Room k X.A) (hm : X.mg x = some (.ref f)) (hk : PySem.W.keepIn X.K (.ref f) = true) (hb : L2.Binds X.K fd ps []) (tk : Takes X W)
    (hn : ∀ ds Qd Ed, S ds Qd Ed → ds.length = n) (ha : PA X (e :: es) (upA X.K T W s)) (hg : Gl X x := by rfl)
    (hdb : (x == ("__debug__" : Str)) = false := by decide) (he : starEach (e :: es) X.env = (false, eval e X.env) :: starEach es X.env := by rfl) (hpl : (backTo pos (starEach es X.env)).any (·.1) = false := by rfl) :
    PE X (.Call (.Name x p) (e :: es) [] pos) (up X.K T W (dCall S s)) := PEi (pe_callS F hr hg hm hk hb (fun σ => passAt tk σ) ha hdb he hpl) fun σ H Q h => up_call σ H Q h hn
theorem df_call (F : FnOk X.prog X.w X.K X.mg X.base (L2.CX X.prog X.w) k f fd ps (spA X.K T n S)) (hr : Room k X.A) (hm : X.mg x = some (.ref f)) (hk : PySem.W.keepIn X.K (.ref f) = true) (hb : L2.Binds X.K fd ps []) (tk : Takes X W)
    (hn : ∀ ds Qd Ed, S ds Qd Ed → ds.length = n) (ha : PA X (e :: es) (upA X.K T W s)) (hg : Gl X x := by rfl)
    (hdb : (x == ("__debug__" : Str)) = false := by decide) (he : starEach (e :: es) X.env = (false, eval e X.env) :: starEach es X.env := by rfl) (hpl : (backTo pos (starEach es X.env)).any (·.1) = false := by rfl) :
    PE X (.Call (.Name x p) (e :: es) [] pos) (upF X.K T W (fCall S s)) := PEi (pe_callS F hr hg hm hk hb (fun σ => passAt tk σ) ha hdb he hpl) fun σ H Q h => up_callF σ H Q h hn
theorem up_callO : ∀ σ H Q, up X.K T W (dCallO j SB s) σ H Q → (∀ xs ds Qd Ed, SB xs ds Qd Ed → ds.length + 1 = n) → tCallS (spB X.K T n SB) (WE W) (tCons (tVar j) (upA X.K T W s)) σ H Q := fun σ H Q h hn => by
  obtain ⟨F, G, δ, Xc, Qd, R, hr, hx, k⟩ := h
  unfold dCallO at hr
  split at hr
  · rename_i p0 xs0 hj0
    obtain ⟨h0, _⟩ := R.oget hj0
    refine ⟨_, h0, F, G, δ, Xc, _, R, hr, hx, fun G1 H1 vs ds δ1 e1 R1 p1 q1 => ?_⟩
    split at q1
    · rename_i q xs hj
      obtain ⟨h2, h3, us, h4, h5⟩ := R1.oget hj
      rw [h0] at h2
      cases h2
      refine ⟨G1, p0, us, xs, vs, ds, _, _, rfl, hn _ _ _ _ q1, R1.tab, R1.ex, h3, h4, h5, p1, q1, fun G' H' v rv xs' us' P b1 b2 b3 rn q => ?_, fun G' H' C xs' us' P b1 b2 b3 q => ?_⟩
      · have R2 := R1.postB hj P b1 b2 b3
        cases rv with
        | d y => exact k G' H' v y _ (e1.trans P.e1) R2 rn q
        | f ys =>
          obtain ⟨a, us, rfl, a1, a2, a3, a4⟩ := rn
          obtain ⟨z1, z2⟩ := R1.fresh_own a1
          have z3 : a ∉ owns (δ1.set j (.o p0 xs')) := by rw [owns_set_same δ1 j hj]; exact z2
          exact k _ H' _ (.lst ys) _ ((e1.trans P.e1).trans (Ex.new a2)) (frz1 R2 a2 a3 z1 z3) ⟨a, us, rfl, upd_same, RpL.mono (Ex.new a2) _ _ a4⟩ q
      · exact hx G' H' _ C (e1.trans P.e1) (R1.postB hj P b1 b2 b3) q
    · exact q1.elim
  · exact hr.elim
theorem up_callOF : ∀ σ H Q, upF X.K T W (fCallO j SB s) σ H Q → (∀ xs ds Qd Ed, SB xs ds Qd Ed → ds.length + 1 = n) → tCallS (spB X.K T n SB) (WE W) (tCons (tVar j) (upA X.K T W s)) σ H Q := fun σ H Q h hn => by
  obtain ⟨F, G, δ, Xc, Qd, R, hr, hx, k⟩ := h
  unfold fCallO at hr
  split at hr
  · rename_i p0 xs0 hj0
    obtain ⟨h0, _⟩ := R.oget hj0
    refine ⟨_, h0, F, G, δ, Xc, _, R, hr, hx, fun G1 H1 vs ds δ1 e1 R1 p1 q1 => ?_⟩
    split at q1
    · rename_i q xs hj
      obtain ⟨h2, h3, us, h4, h5⟩ := R1.oget hj
      rw [h0] at h2
      cases h2
      refine ⟨G1, p0, us, xs, vs, ds, _, _, rfl, hn _ _ _ _ q1, R1.tab, R1.ex, h3, h4, h5, p1, q1, fun G' H' v rv xs' us' P b1 b2 b3 rn q => ?_, fun G' H' C xs' us' P b1 b2 b3 q => ?_⟩
      · have R2 := R1.postB hj P b1 b2 b3
        cases rv with
        | d y => exact q.elim
        | f ys =>
          obtain ⟨a, us, rfl, a1, a2, a3, a4⟩ := rn
          obtain ⟨z1, z2⟩ := R1.fresh_own a1
          have z3 : a ∉ owns (δ1.set j (.o p0 xs')) := by rw [owns_set_same δ1 j hj]; exact z2
          exact k G' H' a us ys _ (e1.trans P.e1) R2 a2 a3 a4 z1 z3 q
      · exact hx G' H' _ C (e1.trans P.e1) (R1.postB hj P b1 b2 b3) q
    · exact q1.elim
  · exact hr.elim
theorem dx_callO (j : Nat) {y : Str} {py : Pos} (F : FnOk X.prog X.w X.K X.mg X.base (L2.CX X.prog X.w) k f fd ps (spB X.K T n SB)) (hr : Room k X.A) (hm : X.mg x = some (.ref f)) (hk : PySem.W.keepIn X.K (.ref f) = true) (hb : L2.Binds X.K fd ps []) (tk : Takes X W)
    (hn : ∀ xs ds Qd Ed, SB xs ds Qd Ed → ds.length + 1 = n) (ha : PA X es (upA X.K T W s)) (hg : Gl X x := by rfl)
    (hN : X.N[j]? = some y := by rfl) (hv : Vis X.env.scope y := by first | exact Or.inl rfl | exact Or.inr (Or.inl rfl) | exact Or.inr (Or.inr rfl)) (hd : (y == ("__debug__" : Str)) = false := by decide) (hcd : (y == ("__classdict__" : Str)) = false := by decide)
    (hs : starEach (.Name y py :: es) X.env = (false, eval (.Name y py) X.env) :: starEach es X.env := by rfl) (hdb : (x == ("__debug__" : Str)) = false := by decide) (hpl : (backTo pos (starEach es X.env)).any (·.1) = false := by rfl) :
    PE X (.Call (.Name x p) (.Name y py :: es) [] pos) (up X.K T W (dCallO j SB s)) := PEi (pe_callS F hr hg hm hk hb (fun σ => passAt tk σ) (pa_cons (pe_var hN hv hd hcd) ha hs) hdb hs hpl) fun σ H Q h => up_callO σ H Q h hn
theorem df_callO (j : Nat) {y : Str} {py : Pos} (F : FnOk X.prog X.w X.K X.mg X.base (L2.CX X.prog X.w) k f fd ps (spB X.K T n SB)) (hr : Room k X.A) (hm : X.mg x = some (.ref f)) (hk : PySem.W.keepIn X.K (.ref f) = true) (hb : L2.Binds X.K fd ps []) (tk : Takes X W)
    (hn : ∀ xs ds Qd Ed, SB xs ds Qd Ed → ds.length + 1 = n) (ha : PA X es (upA X.K T W s)) (hg : Gl X x := by rfl)
    (hN : X.N[j]? = some y := by rfl) (hv : Vis X.env.scope y := by first | exact Or.inl rfl | exact Or.inr (Or.inl rfl) | exact Or.inr (Or.inr rfl)) (hd : (y == ("__debug__" : Str)) = false := by decide) (hcd : (y == ("__classdict__" : Str)) = false := by decide)
    (hs : starEach (.Name y py :: es) X.env = (false, eval (.Name y py) X.env) :: starEach es X.env := by rfl) (hdb : (x == ("__debug__" : Str)) = false := by decide) (hpl : (backTo pos (starEach es X.env)).any (·.1) = false := by rfl) :
    PE X (.Call (.Name x p) (.Name y py :: es) [] pos) (upF X.K T W (fCallO j SB s)) := PEi (pe_callS F hr hg hm hk hb (fun σ => passAt tk σ) (pa_cons (pe_var hN hv hd hcd) ha hs) hdb hs hpl) fun σ H Q h => up_callOF σ H Q h hn
end
/-! ### a def keeps its promise -/
def Rv.out : Rv → Rf
  | .d x => .d x
  | .o _ xs => .f xs
def endA (Qd : Rf → Prop) (Ed : Addr → Prop) : DEnds := { nx := fun _ => Qd (.d .non), rt := fun rv _ => Qd rv.out, xe := fun C _ => Ed C }
def endB (p : Addr) (Qd : Rf → List D → Prop) (Ed : Addr → List D → Prop) : DEnds :=
  { nx := fun δ => ∃ xs, δ[0]? = some (.o p xs) ∧ Qd (.d .non) xs, rt := fun rv δ => ∃ xs, δ[0]? = some (.o p xs) ∧ (∀ q ys, rv = .o q ys → q ≠ p) ∧ Qd rv.out xs, xe := fun C δ => ∃ xs, δ[0]? = some (.o p xs) ∧ Ed C xs }
def argsD (n : Nat) (ds : List D) : Ev := ds.map Sl.d ++ List.replicate (n - ds.length) Sl.u
theorem start_sl {K : PySem.W.Frag} {G H : Hp} {N : List Str} : ∀ {ds : List D} {vs : List V}, RpL K G ds vs → SlL K G H (ds.map Sl.d) (vs.map some)
  | [], _, h => by rw [show _ = _ from h]; exact .nil
  | d :: ds, _, h => by
    obtain ⟨v, r, rfl, h1, h2⟩ := h
    exact .cons ⟨v, rfl, h1⟩ (start_sl (N := N) h2)
theorem SlL.app {K : PySem.W.Frag} {G H : Hp} : ∀ {δ δ' : Ev} {σ σ' : L2.St}, SlL K G H δ σ → SlL K G H δ' σ' → SlL K G H (δ ++ δ') (σ ++ σ')
  | _, _, _, _, .nil, h => h
  | _, _, _, _, .cons a t, h => .cons a (t.app h)
theorem SlL.us {K : PySem.W.Frag} {G H : Hp} : ∀ n, SlL K G H (List.replicate n Sl.u) (List.replicate n none)
  | 0 => .nil
  | n + 1 => .cons trivial (SlL.us n)
theorem owns_d : ∀ ds : List D, owns (ds.map Sl.d) = []
  | [] => rfl
  | d :: ds => owns_d ds
theorem owns_u : ∀ n : Nat, owns (List.replicate n Sl.u) = []
  | 0 => rfl
  | n + 1 => owns_u n
theorem owns_args (n : Nat) (ds : List D) : owns (argsD n ds) = [] := by
  unfold argsD owns
  rw [List.filterMap_append]
  have h1 := owns_d ds
  have h2 := owns_u (n - ds.length)
  unfold owns at h1 h2
  rw [h1, h2]
  rfl
section
variable {P : Program} {w : World} {K : PySem.W.Frag} {mg : Str → Option Value} {base : Heap}
theorem fn_A {x qual : Str} {st : Stmt} {f : Addr} {fd : FuncData} {N ps : List Str} {k n : Nat} {S : FS} {rd : DS} (F : Fun K x qual st f fd) (Sc : FnScope N ps (defScope st)) (hn : ps.length = n)
    (hterm : ∀ (cdv : Value) (A : Around) (outer : List Env) (s : Shared) (H : Hp) (E : XK), Room k (A.deeper (envOfC qual (defScope st) s.heap.objs.size f cdv)) →
      PSs (cxOf (L2.CX P w) P w K mg base N qual (defScope st) f cdv A outer s H E) (defBody st) (upS K T (fun cls d _ H => E cls d H) rd))
    (hd : ∀ ds Qd Ed, ds.length = n → S ds Qd Ed → rd (endA Qd Ed) (argsD N.length ds)) : FnOk P w K mg base (L2.CX P w) (k + 1) f fd ps (spA K T n S) := by
  refine F.okX Sc (fun vs H Q E h => ?_) (fun cdv A outer s H vs Q E hr h => ⟨_, hterm cdv A outer s H E hr, ?_⟩)
  · obtain ⟨G, ds, Qd, Ed, h1, _, h2, h3, _⟩ := h
    rw [h3.length, h1, hn]
  · obtain ⟨G, ds, Qd, Ed, h1, tb, h2, h3, h4, h5, h6⟩ := h
    have hl := h3.length
    refine ⟨⟨H, G, []⟩, G, argsD N.length ds, endA Qd Ed, ⟨h2, ?_, by rw [owns_args]; exact List.nodup_nil, (fun p hp => by rw [owns_args] at hp; cases hp), fun a o _ h _ => h, fun a h => h, fun a _ _ h => h, tb⟩, hd ds Qd Ed h1 h4, ⟨fun G' H' σ' δ' e R q => ?_, fun G' H' σ' δ' v rv e R hv q => ?_, fun _ _ _ _ _ _ z => z.elim, fun _ _ _ _ _ _ z => z.elim, fun G' H' σ' δ' C e R q => ?_⟩⟩
    · unfold L2.start argsD
      rw [hl]
      exact (start_sl (N := N) h3).app (SlL.us _)
    · exact h5 G' H' _ (.d .non) ⟨e, R.ex, fun a o h1 h2 h3 => R.keep a o h1 h2 h3, R.tab, R.there, R.gh⟩ rfl q
    · refine h5 G' H' v rv.out ⟨e, R.ex, fun a o h1 h2 h3 => R.keep a o h1 h2 h3, R.tab, R.there, R.gh⟩ ?_ q
      cases rv with
      | d x => exact hv
      | o p xs =>
        obtain ⟨rfl, a1, a2, us, a3, a4⟩ := hv
        rcases a2 with a2 | a2
        · cases a2
        · exact ⟨p, us, rfl, a2, a1, a3, a4⟩
    · exact h6 G' H' C ⟨e, R.ex, fun a o h1 h2 h3 => R.keep a o h1 h2 h3, R.tab, R.there, R.gh⟩ q
theorem fn_B {x qual : Str} {st : Stmt} {f : Addr} {fd : FuncData} {N ps : List Str} {k n : Nat} {S : FSB} {rd : DS} (F : Fun K x qual st f fd) (Sc : FnScope N ps (defScope st)) (hn : ps.length = n)
    (hterm : ∀ (cdv : Value) (A : Around) (outer : List Env) (s : Shared) (H : Hp) (E : XK), Room k (A.deeper (envOfC qual (defScope st) s.heap.objs.size f cdv)) →
      PSs (cxOf (L2.CX P w) P w K mg base N qual (defScope st) f cdv A outer s H E) (defBody st) (upS K T (fun cls d _ H => E cls d H) rd))
    (hd : ∀ p xs ds Qd Ed, ds.length + 1 = n → S xs ds Qd Ed → rd (endB p Qd Ed) (.o p xs :: argsD (N.length - 1) ds)) : FnOk P w K mg base (L2.CX P w) (k + 1) f fd ps (spB K T n S) := by
  refine F.okX Sc (fun vs H Q E h => ?_) (fun cdv A outer s H vs Q E hr h => ⟨_, hterm cdv A outer s H E hr, ?_⟩)
  · obtain ⟨G, p, us, xs, vs', ds, Qd, Ed, rfl, h1, _, h2, _, _, _, h3, _⟩ := h
    rw [List.length_cons, h3.length, h1, hn]
  · obtain ⟨G, p, us, xs, vs', ds, Qd, Ed, rfl, h1, tb, h2, g1, g2, g3, h3, h4, h5, h6⟩ := h
    have hl := h3.length
    have oo : owns (.o p xs :: argsD (N.length - 1) ds) = [p] := by
      show p :: owns (argsD (N.length - 1) ds) = [p]
      rw [owns_args]
    have fin : ∀ {G' H' : Hp} {σ' : L2.St} {δ' : Ev} {xs' : List D}, Ex G G' → Rel K T ⟨H, G, [p]⟩ G' H' σ' δ' → δ'[0]? = some (.o p xs') → ∃ us', Post T G H [p] G' H' ∧ G' p = none ∧ H' p = some (.lst us') ∧ RpL K G' xs' us' := fun {G' H' σ' δ' xs'} e R h0 => by
      obtain ⟨_, a1, us', a2, a3⟩ := R.oget h0
      exact ⟨us', ⟨e, R.ex, fun a o h1 h2 h3 => R.keep a o h1 h2 h3, R.tab, R.there, R.gh⟩, a1, a2, a3⟩
    refine ⟨⟨H, G, [p]⟩, G, .o p xs :: argsD (N.length - 1) ds, endB p Qd Ed, ⟨h2, ?_, by rw [oo]; exact List.nodup_cons.mpr ⟨(fun z => nomatch z), List.nodup_nil⟩, (fun q hq => by rw [oo] at hq; exact .inl hq), fun a o _ h _ => h, fun a h => h, fun a _ _ h => h, tb⟩, hd p xs ds Qd Ed h1 h4, ⟨fun G' H' σ' δ' e R q => ?_, fun G' H' σ' δ' v rv e R hv q => ?_, fun _ _ _ _ _ _ z => z.elim, fun _ _ _ _ _ _ z => z.elim, fun G' H' σ' δ' C e R q => ?_⟩⟩
    · unfold L2.start argsD
      rw [List.map_cons, List.length_cons, hl, Nat.sub_sub, Nat.add_comm 1 ds.length]
      exact .cons ⟨rfl, g1, us, g2, g3⟩ ((start_sl (N := N) h3).app (SlL.us _))
    · obtain ⟨xs', h0, q⟩ := q
      obtain ⟨us', a1, a2, a3, a4⟩ := fin e R h0
      exact h5 G' H' _ (.d .non) xs' us' a1 a2 a3 a4 rfl q
    · obtain ⟨xs', h0, hne, q⟩ := q
      obtain ⟨us', a1, a2, a3, a4⟩ := fin e R h0
      refine h5 G' H' v rv.out xs' us' a1 a2 a3 a4 ?_ q
      cases rv with
      | d x => exact hv
      | o r ys =>
        obtain ⟨rfl, b1, b2, us2, b3, b4⟩ := hv
        rcases b2 with b2 | b2
        · exact absurd (List.mem_singleton.mp b2) (hne r ys rfl)
        · exact ⟨r, us2, rfl, b2, b1, b3, b4⟩
    · obtain ⟨xs', h0, q⟩ := q
      obtain ⟨us', a1, a2, a3, a4⟩ := fin e R h0
      exact h6 G' H' C xs' us' a1 a2 a3 a4 q
end
/-! ### raise X(), X an own class without __init__ -/
section
variable {X : Cx} {C : Addr} {bmB : List Value} {B newId initId : String}
theorem pmk_own0 {x : Str} {p pos : Pos} (F : ExcBaseFacts B newId initId bmB) (q : PySem.W.excIn X.K C bmB newId = true) (gC : X.mg x = some (.ref C)) (kC : PySem.W.keepIn X.K (.ref C) = true) (r : Raises X (.ref C)) (hg : Gl X x)
    (hdb : (x == ("__debug__" : Str)) = false := by decide) : PMk X (.Call (.Name x p) [] [] pos) (fun _ H Q => Q (.ref C) none H) := by
  intro pins s σ H Q I h
  refine wpAny_Call_Name_kw (ld_glob I hg gC ?_ hdb)
  refine PySem.W.callWith_K0 I.kIn kC ?_
  obtain ⟨bm, N, nm, qn, bs, hdct, sn, sub, ab, col, dd, k0, k1, k2, k3, k5, mN, hC, hN, hni, T⟩ := exc_obj I.kIn q
  exact wpAny_call_exc_subT F T hC hN hni (fun h' e hm => mk_of I hm r h (I.hok.gone hm.new)) (Nat.zero_le _)
/-- what is known of an own class over ValueError -/
structure ErrC (K : PySem.W.Frag) (mg : Str → Option Value) (x : Str) (C : Addr) : Prop where
  g : mg x = some (.ref C)
  q : PySem.W.excIn K C [.type "ValueError", .type "Exception", .type "BaseException", .type "object"] "ValueError.__new__" = true
  k : PySem.W.keepIn K (.ref C) = true
  b : PySem.W.subIn K (.ref C) (.type "BaseException") = some true
  t : PySem.W.typeIn K (.ref C) = some (.type "type")
theorem ds_raiseC {W : WX} {x : Str} {p pos pos' : Pos} (E : ErrC X.K X.mg x C) (tk : Takes X W) (hc : X.calm = true := by rfl) (hg : Gl X x := by rfl) (hdb : (x == ("__debug__" : Str)) = false := by decide) :
    PS X (.Raise (some (.Call (.Name x p) [] [] pos)) none pos') (upS X.K T W (sRaise C)) := ds_raise (t := fun _ _ _ => True) hc tk (pmk_own0 PySem.F.excBase_ValueError E.q E.g E.k (raises_own E.b E.t) hg hdb)
end
end DL


set_option Elab.async false
set_option linter.all false
set_option maxRecDepth 100000
set_option autoImplicit true
namespace DL
open PySem PySem.Spec PyProof.Rows L2

/-! ### slices -/
def cut {α : Type} (xs : List α) (lo hi : Option Int) : List α := (xs.drop (HT.sIx xs.length 0 lo)).take (HT.sIx xs.length xs.length hi - HT.sIx xs.length 0 lo)
theorem RpL.cut {K : PySem.W.Frag} {G : Hp} {ds : List D} {vs : List V} {lo hi : Option Int} (h : RpL K G ds vs) : RpL K G (DL.cut ds lo hi) (cutV vs lo hi) := by
  unfold DL.cut cutV
  rw [h.length]
  exact (h.drop _).take _
abbrev DO := XC → Ev → (Option Int → Ev → Prop) → Prop
def upO (K : PySem.W.Frag) (T : List (Addr × Str)) (W : WX) (r : DO) : TO := fun σ H Q => ∃ F G δ Xc Qd, Rel K T F G H σ δ ∧ r Xc δ Qd ∧ XOk K T W F G σ Xc ∧ ∀ G' H' o δ', Ex G G' → Rel K T F G' H' σ δ' → Qd o δ' → Q o H'
def oNone : DO := fun _ δ Q => Q none δ
def oSome (r : DE) : DO := fun Xc δ Q => r Xc δ fun x δ' => match x with
  | .int i => Q (some i) δ'
  | _ => False
def fSl : D → Option Int → Option Int → (D → Prop) → Prop
  | .tup xs, lo, hi, Q => Q (.tup (cut xs lo hi))
  | .lst xs, lo, hi, Q => Q (.lst (cut xs lo hi))
  | .sq xs, lo, hi, Q => Q (.lst (cut xs lo hi))
  | .str z, lo, hi, Q => z.length ≤ sizeLine ∧ Q (.str (cutS z lo hi))
  | _, _, _, _ => False
def dSl (r : DE) (l h : DO) : DE := fun Xc δ Q => r Xc δ fun x δ1 => l Xc δ1 fun lo δ2 => h Xc δ2 fun hi δ3 => fSl x lo hi fun z => Q z δ3
def fSlL (r : DE) (l h : DO) : DF := fun Xc δ Q => r Xc δ fun x δ1 => l Xc δ1 fun lo δ2 => h Xc δ2 fun hi δ3 => match x with
  | .lst xs => Q (cut xs lo hi) δ3
  | .sq xs => Q (cut xs lo hi) δ3
  | _ => False
section
variable {X : Cx} {W : WX} {e : Expr} {re : DE} {l h : DO} {lo hi : Option Expr} {pos p2 : Pos}
theorem do_none : PO X none (upO X.K T W oNone) := ⟨fun pins s σ H Q I h => po_none.run pins s σ H Q I (by
  obtain ⟨F, G, δ, Xc, Qd, R, hr, hx, k⟩ := h
  exact k G H none δ (Ex.refl G) R hr)⟩
theorem do_some (he : PE X e (up X.K T W re)) : PO X (some e) (upO X.K T W (oSome re)) := ⟨fun pins s σ H Q I h => (po_some he).run pins s σ H Q I (by
  obtain ⟨F, G, δ, Xc, Qd, R, hr, hx, k⟩ := h
  refine ⟨F, G, δ, Xc, _, R, hr, hx, fun G1 H1 v x δ1 e1 R1 p1 q1 => ?_⟩
  cases x with
  | int i => exact ⟨i, p1, k G1 H1 (some i) δ1 e1 R1 q1⟩
  | _ => exact q1.elim)⟩
theorem dx_sl (he : PE X e (up X.K T W re)) (hl : PO X lo (upO X.K T W l)) (hh : PO X hi (upO X.K T W h)) : PE X (.Subscript e (.Slice lo hi none p2) pos) (up X.K T W (dSl re l h)) :=
  PEi (pe_slice (SlR.or sl_list (SlR.or sl_tupA sl_str)) he hl hh) fun σ H Q hw => by
  obtain ⟨F, G, δ, Xc, Qd, R, hr, hx, k⟩ := hw
  refine ⟨F, G, δ, Xc, _, R, hr, hx, fun G1 H1 v x δ1 e1 R1 p1 q1 => ?_⟩
  refine ⟨F, G1, δ1, Xc, _, R1, q1, hx.mono e1, fun G2 H2 lo' δ2 e2 R2 q2 => ?_⟩
  refine ⟨F, G2, δ2, Xc, _, R2, q2, (hx.mono e1).mono e2, fun G3 H3 hi' δ3 e3 R3 q3 => ?_⟩
  have ee := (e1.trans e2).trans e3
  have p3 := Rp.mono (e2.trans e3) _ _ p1
  have ls : ∀ {a us xs}, v = .ref a → SqL X.K G3 a us → RpL X.K G3 xs us → Qd (.lst (cut xs lo' hi')) δ3 → rSlL X.K v lo' hi' H3 Q := fun {a us xs} hv h1 h2 q =>
    ⟨a, us, hv, ex_l R3.ex h1, fun p hp => k _ _ _ (.lst _) δ3 (ee.trans (Ex.new (R3.ex.back hp))) (R3.alloc hp) ⟨p, _, rfl, upd_same, RpL.mono (Ex.new (R3.ex.back hp)) _ _ h2.cut⟩ q⟩
  cases x <;> first | exact q3.elim | skip
  · obtain rfl := p3
    exact .inr (.inr ⟨_, rfl, q3.1, k G3 H3 _ (.str _) δ3 ee R3 rfl q3.2⟩)
  · obtain ⟨a, us, rfl, h1, h2⟩ := p3
    exact .inl (ls rfl (SqL.of h1) h2 q3)
  · rename_i xs
    obtain ⟨a, us, rfl, h1, h2⟩ := p3
    refine .inr (.inl ⟨a, us, rfl, ex_t R3.ex h1, fun hw => ?_, fun _ p hp => ?_⟩)
    · have e0 : cut xs lo' hi' = xs := by
        unfold cut
        rw [← h2.length, hw.1, hw.2, List.drop_zero, Nat.sub_zero, h2.length, List.take_length]
      have q3 : Qd (.tup (cut xs lo' hi')) δ3 := q3
      rw [e0] at q3
      exact k G3 H3 _ (.tup xs) δ3 ee R3 ⟨a, us, rfl, h1, h2⟩ q3
    · exact k _ _ _ (.tup _) δ3 (ee.trans (Ex.new (R3.ex.back hp))) (R3.alloc hp) ⟨p, _, rfl, .inl (.inl upd_same), RpL.mono (Ex.new (R3.ex.back hp)) _ _ h2.cut⟩ q3
  · obtain ⟨a, us, rfl, h1, h2⟩ := p3
    exact .inl (ls rfl h1 h2 q3)
theorem df_sl (he : PE X e (up X.K T W re)) (hl : PO X lo (upO X.K T W l)) (hh : PO X hi (upO X.K T W h)) : PE X (.Subscript e (.Slice lo hi none p2) pos) (upF X.K T W (fSlL re l h)) :=
  PEi (pe_slice sl_list he hl hh) fun σ H Q hw => by
  obtain ⟨F, G, δ, Xc, Qd, R, hr, hx, k⟩ := hw
  refine ⟨F, G, δ, Xc, _, R, hr, hx, fun G1 H1 v x δ1 e1 R1 p1 q1 => ?_⟩
  refine ⟨F, G1, δ1, Xc, _, R1, q1, hx.mono e1, fun G2 H2 lo' δ2 e2 R2 q2 => ?_⟩
  refine ⟨F, G2, δ2, Xc, _, R2, q2, (hx.mono e1).mono e2, fun G3 H3 hi' δ3 e3 R3 q3 => ?_⟩
  have ee := (e1.trans e2).trans e3
  have p3 := Rp.mono (e2.trans e3) _ _ p1
  cases x <;> first | exact q3.elim | skip
  · obtain ⟨a, us, rfl, h1, h2⟩ := p3
    exact ⟨a, us, rfl, ex_lt R3.ex h1, newF ee R3 h2.cut q3 k⟩
  · obtain ⟨a, us, rfl, h1, h2⟩ := p3
    exact ⟨a, us, rfl, ex_l R3.ex h1, newF ee R3 h2.cut q3 k⟩
end
/-! ### lists: +, *; tuples: * -/
def fCatL (ra rb : DE) : DF := fun Xc δ Q => ra Xc δ fun x δ1 => rb Xc δ1 fun y δ2 => match x, y with
  | .lst xs, .lst ys => xs.length + ys.length ≤ sizeLine ∧ Q (xs ++ ys) δ2
  | _, _ => False
def fRepL (ra rb : DE) : DF := fun Xc δ Q => ra Xc δ fun x δ1 => rb Xc δ1 fun y δ2 => match x, y with
  | .lst xs, .int n => n < 2 ^ 63 ∧ -(2 ^ 63) ≤ n ∧ xs.length * n.toNat ≤ sizeLine ∧ Q (List.replicate n.toNat xs).flatten δ2
  | _, _ => False
def fRepT : D → D → (D → Prop) → Prop
  | .tup xs, .int n, Q => xs ≠ [] ∧ 2 ≤ n ∧ n ≤ 1000 ∧ xs.length ≤ 1000 ∧ Q (.tup (List.replicate n.toNat xs).flatten)
  | _, _, _ => False
theorem RpL.rep {K : PySem.W.Frag} {G : Hp} {ds : List D} {vs : List V} (h : RpL K G ds vs) : ∀ n, RpL K G (List.replicate n ds).flatten (List.replicate n vs).flatten
  | 0 => rfl
  | n + 1 => by
    rw [List.replicate_succ, List.flatten_cons, List.replicate_succ, List.flatten_cons]
    exact h.append (RpL.rep h n)
theorem lf_repT {K : PySem.W.Frag} : Leaf2 K T (rRepT K) fRepT := fun F G H σ δ x y v w Qd Q R px py hf k => by
  cases x <;> cases y <;> first | exact hf.elim | skip
  obtain ⟨a, us, rfl, h1, h2⟩ := px
  obtain ⟨c1, c2, c3, c4, q⟩ := hf
  refine ⟨a, _, us, rfl, py, ex_t R.ex h1, fun e => ?_, c2, c3, by rw [h2.length]; exact c4, fun p hp => ?_⟩
  · subst e
    exact c1 (List.length_eq_zero_iff.mp h2.length.symm)
  · exact k _ _ _ (.tup _) (Ex.new (R.ex.back hp)) (R.alloc hp) ⟨p, _, rfl, .inl (.inl upd_same), RpL.mono (Ex.new (R.ex.back hp)) _ _ (h2.rep _)⟩ q
section
variable {X : Cx} {W : WX} {a b : Expr} {ra rb : DE} {pos : Pos}
theorem df_cat (ha : PE X a (up X.K T W ra)) (hb : PE X b (up X.K T W rb)) : PE X (.BinOp a .Add b pos) (upF X.K T W (fCatL ra rb)) := PEi (pe_op op_cat ha hb) fun σ H Q h => by
  obtain ⟨F, G, δ, Xc, Qd, R, hr, hx, k⟩ := h
  refine ⟨F, G, δ, Xc, _, R, hr, hx, fun G1 H1 v x δ1 e1 R1 p1 h1 => ?_⟩
  refine ⟨F, G1, δ1, Xc, _, R1, h1, hx.mono e1, fun G2 H2 w y δ2 e2 R2 p2 h2 => ?_⟩
  have p1 := Rp.mono e2 _ _ p1
  cases x <;> cases y <;> first | exact h2.elim | skip
  obtain ⟨a, us, rfl, h1, h3⟩ := p1
  obtain ⟨b, ws, rfl, h4, h5⟩ := p2
  exact ⟨a, b, us, ws, rfl, rfl, R2.ex _ _ h1, R2.ex _ _ h4, by rw [h3.length, h5.length]; exact h2.1, newF (e1.trans e2) R2 (h3.append h5) h2.2 k⟩
theorem df_rep (ha : PE X a (up X.K T W ra)) (hb : PE X b (up X.K T W rb)) : PE X (.BinOp a .Mult b pos) (upF X.K T W (fRepL ra rb)) := PEi (pe_op op_rep ha hb) fun σ H Q h => by
  obtain ⟨F, G, δ, Xc, Qd, R, hr, hx, k⟩ := h
  refine ⟨F, G, δ, Xc, _, R, hr, hx, fun G1 H1 v x δ1 e1 R1 p1 h1 => ?_⟩
  refine ⟨F, G1, δ1, Xc, _, R1, h1, hx.mono e1, fun G2 H2 w y δ2 e2 R2 p2 h2 => ?_⟩
  have p1 := Rp.mono e2 _ _ p1
  cases x <;> cases y <;> first | exact h2.elim | skip
  obtain ⟨a, us, rfl, h1, h3⟩ := p1
  obtain ⟨c1, c2, c3, q⟩ := h2
  exact ⟨a, _, us, rfl, p2, R2.ex _ _ h1, c2, c1, by rw [h3.length]; exact c3, newF (e1.trans e2) R2 (h3.rep _) q k⟩
theorem dx_repT (ha : PE X a (up X.K T W ra)) (hb : PE X b (up X.K T W rb)) : PE X (.BinOp a .Mult b pos) (up X.K T W (dBin fRepT ra rb)) := dx_op op_repT lf_repT ha hb
end
def gSorted : List D → (List D → Prop) → Prop
  | [.lst xs], Q => ∃ ns : List Int, xs = ns.map D.int ∧ ∀ ns' : List Int, ns'.Perm ns → ns'.Pairwise (· ≤ ·) → Q (ns'.map D.int)
  | _, _ => False
theorem lf_sorted {K : PySem.W.Frag} : LeafF K (rSortedI K) gSorted := fun G H ds vs Qd Q e p hf k => by
  unfold gSorted at hf
  split at hf
  · obtain ⟨ns, rfl, q⟩ := hf
    obtain ⟨v, rfl, a, us, rfl, h1, h2⟩ := one_of p
    obtain rfl := h2.ints
    exact ⟨a, ns, rfl, ex_lt e h1, fun ns' l p1 p2 hl => k (ns'.map V.int) (ns'.map D.int) (RpL.ofInts ns') (q ns' p1 p2) l hl⟩
  · exact hf.elim
/-! ### a def of the text and its promise, by its name -/
structure Dfn (P : Program) (w : World) (K : PySem.W.Frag) (mg : Str → Option Value) (base : Heap) (x : Str) (k : Nat) (sp : Sp) : Prop where
  ex : ∃ (f : Addr) (fd : FuncData) (ps : List Str), FnOk P w K mg base (L2.CX P w) k f fd ps sp ∧ mg x = some (.ref f) ∧ PySem.W.keepIn K (.ref f) = true ∧ L2.Binds K fd ps []
section
variable {X : Cx} {W : WX} {k k' n j : Nat} {S : FS} {SB : FSB} {x : Str} {p pos : Pos} {e : Expr} {es : List Expr} {s : DF}
theorem dx_def (Df : Dfn X.prog X.w X.K X.mg X.base x k (spA X.K T n S)) (tk : Takes X W) (hr : Room k' X.A) (hk : k ≤ k') (hn : ∀ ds Qd Ed, S ds Qd Ed → ds.length = n) (ha : PA X (e :: es) (upA X.K T W s)) (hg : Gl X x := by rfl)
    (hdb : (x == ("__debug__" : Str)) = false := by decide) (he : starEach (e :: es) X.env = (false, eval e X.env) :: starEach es X.env := by rfl) (hpl : (backTo pos (starEach es X.env)).any (·.1) = false := by rfl) :
    PE X (.Call (.Name x p) (e :: es) [] pos) (up X.K T W (dCall S s)) := by
  obtain ⟨f, fd, ps, F, h1, h2, h3⟩ := Df.ex
  exact dx_call F (hr.mono hk) h1 h2 h3 tk hn ha hg hdb he hpl
theorem df_def (Df : Dfn X.prog X.w X.K X.mg X.base x k (spA X.K T n S)) (tk : Takes X W) (hr : Room k' X.A) (hk : k ≤ k') (hn : ∀ ds Qd Ed, S ds Qd Ed → ds.length = n) (ha : PA X (e :: es) (upA X.K T W s)) (hg : Gl X x := by rfl)
    (hdb : (x == ("__debug__" : Str)) = false := by decide) (he : starEach (e :: es) X.env = (false, eval e X.env) :: starEach es X.env := by rfl) (hpl : (backTo pos (starEach es X.env)).any (·.1) = false := by rfl) :
    PE X (.Call (.Name x p) (e :: es) [] pos) (upF X.K T W (fCall S s)) := by
  obtain ⟨f, fd, ps, F, h1, h2, h3⟩ := Df.ex
  exact df_call F (hr.mono hk) h1 h2 h3 tk hn ha hg hdb he hpl
theorem dx_defO (j : Nat) {y : Str} {py : Pos} (Df : Dfn X.prog X.w X.K X.mg X.base x k (spB X.K T n SB)) (tk : Takes X W) (hr : Room k' X.A) (hk : k ≤ k') (hn : ∀ xs ds Qd Ed, SB xs ds Qd Ed → ds.length + 1 = n) (ha : PA X es (upA X.K T W s)) (hg : Gl X x := by rfl)
    (hN : X.N[j]? = some y := by rfl) (hv : Vis X.env.scope y := by first | exact Or.inl rfl | exact Or.inr (Or.inl rfl) | exact Or.inr (Or.inr rfl)) (hd : (y == ("__debug__" : Str)) = false := by decide) (hcd : (y == ("__classdict__" : Str)) = false := by decide)
    (hs : starEach (.Name y py :: es) X.env = (false, eval (.Name y py) X.env) :: starEach es X.env := by rfl) (hdb : (x == ("__debug__" : Str)) = false := by decide) (hpl : (backTo pos (starEach es X.env)).any (·.1) = false := by rfl) :
    PE X (.Call (.Name x p) (.Name y py :: es) [] pos) (up X.K T W (dCallO j SB s)) := by
  obtain ⟨f, fd, ps, F, h1, h2, h3⟩ := Df.ex
  exact dx_callO j F (hr.mono hk) h1 h2 h3 tk hn ha hg hN hv hd hcd hs hdb hpl
theorem df_defO (j : Nat) {y : Str} {py : Pos} (Df : Dfn X.prog X.w X.K X.mg X.base x k (spB X.K T n SB)) (tk : Takes X W) (hr : Room k' X.A) (hk : k ≤ k') (hn : ∀ xs ds Qd Ed, SB xs ds Qd Ed → ds.length + 1 = n) (ha : PA X es (upA X.K T W s)) (hg : Gl X x := by rfl)
    (hN : X.N[j]? = some y := by rfl) (hv : Vis X.env.scope y := by first | exact Or.inl rfl | exact Or.inr (Or.inl rfl) | exact Or.inr (Or.inr rfl)) (hd : (y == ("__debug__" : Str)) = false := by decide) (hcd : (y == ("__classdict__" : Str)) = false := by decide)
    (hs : starEach (.Name y py :: es) X.env = (false, eval (.Name y py) X.env) :: starEach es X.env := by rfl) (hdb : (x == ("__debug__" : Str)) = false := by decide) (hpl : (backTo pos (starEach es X.env)).any (·.1) = false := by rfl) :
    PE X (.Call (.Name x p) (.Name y py :: es) [] pos) (upF X.K T W (fCallO j SB s)) := by
  obtain ⟨f, fd, ps, F, h1, h2, h3⟩ := Df.ex
  exact df_callO j F (hr.mono hk) h1 h2 h3 tk hn ha hg hN hv hd hcd hs hdb hpl
end
/-- within a comprehension's block nothing is let out -/
theorem takesF {X : Cx} : Takes X (fun _ _ _ _ => False) := L2.takes0
end DL


set_option Elab.async false
set_option linter.all false
set_option maxRecDepth 100000
set_option autoImplicit true
namespace DL
open PySem PySem.Spec PyProof.Rows L2

abbrev fSub := fI (fun _ _ => True) fun i j => .int (i - j)
abbrev fMod := fI (fun _ j => j ≠ 0) fun i j => .int (i.fmod j)
abbrev fDiv := fI DivOk fun i j => .int (i.fdiv j)
abbrev fPow := fI CPow fun i j => .int (i ^ j.toNat)
abbrev fGt := fI (fun _ _ => True) fun i j => .bl (decide (j < i))
abbrev fGe := fI (fun _ _ => True) fun i j => .bl (decide (j ≤ i))
theorem b_len : bootBuiltins "len" = some (.builtin "len") := by decide +kernel
theorem b_abs : bootBuiltins "abs" = some (.builtin "abs") := by decide +kernel
theorem b_int : bootBuiltins "int" = some (.type "int") := by decide +kernel
theorem b_bool : bootBuiltins "bool" = some (.type "bool") := by decide +kernel
theorem b_str : bootBuiltins "str" = some (.type "str") := by decide +kernel
theorem b_tuple : bootBuiltins "tuple" = some (.type "tuple") := by decide +kernel
theorem b_list : bootBuiltins "list" = some (.type "list") := by decide +kernel
theorem b_dict : bootBuiltins "dict" = some (.type "dict") := by decide +kernel
theorem b_set : bootBuiltins "set" = some (.type "set") := by decide +kernel
theorem b_sum : bootBuiltins "sum" = some (.builtin "sum") := by decide +kernel
theorem b_max : bootBuiltins "max" = some (.builtin "max") := by decide +kernel
theorem b_min : bootBuiltins "min" = some (.builtin "min") := by decide +kernel
theorem b_any : bootBuiltins "any" = some (.builtin "any") := by decide +kernel
theorem b_all : bootBuiltins "all" = some (.builtin "all") := by decide +kernel
theorem b_sorted : bootBuiltins "sorted" = some (.builtin "sorted") := by decide +kernel
theorem b_isinstance : bootBuiltins "isinstance" = some (.builtin "isinstance") := by decide +kernel
section
variable {X : Cx} {W : WX} {a b c : Expr} {ra rb rc : DE} {pos : Pos}
theorem dt_lt (ha : PE X a (up X.K T W ra)) (hb : PE X b (up X.K T W rb)) : PT X (.Compare a [.Lt] [b] pos) (upT X.K T W (dB (dBin fLt ra rb))) := dt_cmp op_lt (lf_I0 fun _ _ _ => rfl) ha hb (nomark _)
theorem dt_le (ha : PE X a (up X.K T W ra)) (hb : PE X b (up X.K T W rb)) : PT X (.Compare a [.LtE] [b] pos) (upT X.K T W (dB (dBin fLe ra rb))) := dt_cmp op_le (lf_I0 fun _ _ _ => rfl) ha hb (nomark _)
theorem dt_gt (ha : PE X a (up X.K T W ra)) (hb : PE X b (up X.K T W rb)) : PT X (.Compare a [.Gt] [b] pos) (upT X.K T W (dB (dBin fGt ra rb))) := dt_cmp op_gt (lf_I0 fun _ _ _ => rfl) ha hb (nomark _)
theorem dt_ge (ha : PE X a (up X.K T W ra)) (hb : PE X b (up X.K T W rb)) : PT X (.Compare a [.GtE] [b] pos) (upT X.K T W (dB (dBin fGe ra rb))) := dt_cmp op_ge (lf_I0 fun _ _ _ => rfl) ha hb (nomark _)
theorem dt_eq (hu : X.A.units + 64 < cLine) (ha : PE X a (up X.K T W ra)) (hb : PE X b (up X.K T W rb)) : PT X (.Compare a [.Eq] [b] pos) (upT X.K T W (dB (dBin fEq ra rb))) := dt_cmp (OpR.or op_eq (op_eqD hu)) lf_eqs ha hb (nomark _)
theorem dt_ne (hu : X.A.units + 64 < cLine) (ha : PE X a (up X.K T W ra)) (hb : PE X b (up X.K T W rb)) : PT X (.Compare a [.NotEq] [b] pos) (upT X.K T W (dB (dBin fNe ra rb))) := dt_cmp (OpR.or op_ne (op_neD hu)) lf_nes ha hb (nomark _)
theorem dt_is (ha : PE X a (up X.K T W ra)) (hb : PE X b (up X.K T W rb)) : PT X (.Compare a [.Is] [b] pos) (upT X.K T W (dB (dBin fIs ra rb))) := dt_cmp (OpR.or op_isN op_isBl) lf_is ha hb (nomark _)
theorem dt_isnt (ha : PE X a (up X.K T W ra)) (hb : PE X b (up X.K T W rb)) : PT X (.Compare a [.IsNot] [b] pos) (upT X.K T W (dB (dBin fIsnt ra rb))) := dt_cmp (OpR.or op_notN op_notBl) lf_isnt ha hb (nomark _)
theorem dt_in (ha : PE X a (up X.K T W ra)) (hb : PE X b (up X.K T W rb)) (hm : behindInMarks .In b = false := by rfl) : PT X (.Compare a [.In] [b] pos) (upT X.K T W (dB (dBin (fIn false) ra rb))) := dt_cmp op_in_seq lf_in ha hb hm
theorem dt_notin (ha : PE X a (up X.K T W ra)) (hb : PE X b (up X.K T W rb)) (hm : behindInMarks .NotIn b = false := by rfl) : PT X (.Compare a [.NotIn] [b] pos) (upT X.K T W (dB (dBin (fIn true) ra rb))) := dt_cmp op_notIn_seq lf_in ha hb hm
theorem dt_le_le (ha : PE X a (up X.K T W ra)) (hb : PE X b (up X.K T W rb)) (hc : PE X c (up X.K T W rc)) (hm : lastMarks [.LtE, .LtE] [b, c] = false := by with_unfolding_all rfl) : PT X (.Compare a [.LtE, .LtE] [b, c] pos) (upT X.K T W (dB (dChain fLe fLe ra rb rc))) :=
  dt_chain op_le (lf_I0 fun _ _ _ => rfl) op_le (lf_I0 fun _ _ _ => rfl) ha hb hc hm
theorem dt_le_lt (ha : PE X a (up X.K T W ra)) (hb : PE X b (up X.K T W rb)) (hc : PE X c (up X.K T W rc)) (hm : lastMarks [.LtE, .Lt] [b, c] = false := by with_unfolding_all rfl) : PT X (.Compare a [.LtE, .Lt] [b, c] pos) (upT X.K T W (dB (dChain fLe fLt ra rb rc))) :=
  dt_chain op_le (lf_I0 fun _ _ _ => rfl) op_lt (lf_I0 fun _ _ _ => rfl) ha hb hc hm
theorem dt_lt_le (ha : PE X a (up X.K T W ra)) (hb : PE X b (up X.K T W rb)) (hc : PE X c (up X.K T W rc)) (hm : lastMarks [.Lt, .LtE] [b, c] = false := by with_unfolding_all rfl) : PT X (.Compare a [.Lt, .LtE] [b, c] pos) (upT X.K T W (dB (dChain fLt fLe ra rb rc))) :=
  dt_chain op_lt (lf_I0 fun _ _ _ => rfl) op_le (lf_I0 fun _ _ _ => rfl) ha hb hc hm
theorem dt_lt_lt (ha : PE X a (up X.K T W ra)) (hb : PE X b (up X.K T W rb)) (hc : PE X c (up X.K T W rc)) (hm : lastMarks [.Lt, .Lt] [b, c] = false := by with_unfolding_all rfl) : PT X (.Compare a [.Lt, .Lt] [b, c] pos) (upT X.K T W (dB (dChain fLt fLt ra rb rc))) :=
  dt_chain op_lt (lf_I0 fun _ _ _ => rfl) op_lt (lf_I0 fun _ _ _ => rfl) ha hb hc hm
/-- truth of any value -/
def tru : D → (Bool → Prop) → Prop
  | .non, Q => Q false
  | .bl b, Q => Q b
  | .int i, Q => Q (i != 0)
  | .str z, Q => z.length ≤ sizeLine ∧ Q ((z.length : Int) != 0)
  | .lst xs, Q => Q (!xs.isEmpty)
  | .tup xs, Q => Q (!xs.isEmpty)
  | _, _ => False
def dTru (r : DE) : DT := fun Xc δ Q => r Xc δ fun d δ' => tru d fun b => Q b δ'
theorem isEmpty_rp {K : PySem.W.Frag} {G : Hp} {xs : List D} {us : List V} (h : RpL K G xs us) : us.isEmpty = xs.isEmpty := by
  have := h.length
  cases us <;> cases xs <;> first | rfl | simp at this
theorem dt_tru (h : PE X a (up X.K T W ra)) (he : ∀ whole, isTrue a X.env whole = (do let v ← whole; standAt a.pos; holding [v] (truthy v)) := by intro _; rfl) : PT X a (upT X.K T W (dTru ra)) := PTi (pt_truth h he) fun σ H Q h => by
  obtain ⟨F, G, δ, Xc, Qd, R, hr, hx, k⟩ := h
  refine ⟨F, G, δ, Xc, _, R, hr, hx, fun G1 H1 v x δ1 e1 R1 p1 h1 => ?_⟩
  cases x <;> first | exact h1.elim | skip
  · obtain rfl := p1; exact ⟨false, rfl, k G1 H1 _ δ1 e1 R1 h1⟩
  · obtain rfl := p1; exact ⟨_, rfl, k G1 H1 _ δ1 e1 R1 h1⟩
  · obtain rfl := p1; exact ⟨_, rfl, k G1 H1 _ δ1 e1 R1 h1⟩
  · obtain rfl := p1; exact ⟨_, ⟨h1.1, rfl⟩, k G1 H1 _ δ1 e1 R1 h1.2⟩
  · obtain ⟨p, us, rfl, h2, h3⟩ := p1; exact ⟨_, .inl ⟨us, ex_lt R1.ex h2, by rw [isEmpty_rp h3]⟩, k G1 H1 _ δ1 e1 R1 h1⟩
  · obtain ⟨p, us, rfl, h2, h3⟩ := p1; exact ⟨_, .inr (.inl ⟨us, ex_t R1.ex h2, by rw [isEmpty_rp h3]⟩), k G1 H1 _ δ1 e1 R1 h1⟩
/-- a module's name that holds an object -/
theorem dx_globR {x : Str} {C : Addr} (hm : X.mg x = some (.ref C)) (hg : Gl X x := by rfl) (hd : (x == ("__debug__" : Str)) = false := by decide) : PE X (.Name x pos) (up X.K T W (dC (.opq (.ref C)))) :=
  up_c (t := tC (.ref C)) (pe_glob (v := .ref C) hg hm rfl hd) fun _ => rfl
/-- targets = e, of any form -/
def sAsg (r : DE) (g : DG) : DS := fun Dd δ => r Dd.xe δ fun x δ' => g x δ' Dd.nx
theorem ds_asg {tg : Expr} {g : DG} {vs : List Nat} (he : PE X a (up X.K T W ra)) (hg : PG X tg (upG X.K T vs g)) (hs : swapsWithSole [tg] a pos.line X.env = pure false := by rfl) (hw : swappedStores [tg] a X.env = pure none := by rfl) (h1 : (assignEach [tg] X.env).map (·.2) = [assign tg X.env] := by rfl) :
    PS X (.Assign [tg] a pos) (upS X.K T W (sAsg ra g)) := PSi (ps_asg he hg hs hw h1) fun Dn σ H h => by
  obtain ⟨F, G, δ, Dd, R, hr, k⟩ := h
  exact ⟨F, G, δ, Dd.xe, _, R, hr, k.x, fun G' H' v d δ' e R' p q => ⟨F, G', δ', d, _, R', p, q, fun σ'' δ'' R'' _ q => k.nx G' H' _ _ e R'' q⟩⟩
end
section
variable {X : Cx} {W : WX}
/-- x = [..] on one line, x a local name -/
theorem ds_setLc {i : Nat} {y : Str} {py : Pos} {elt tg iter : Expr} {ifs : List Expr} {scope : Scope} {own : List (Str × Nat)} {pos spos : Pos} {ri : DF} {g : DG} {t : DT} {re : DE} (hc : X.calm = true) (hN : X.N.Nodup) (hy : X.N[i]? = some y) (hyl : X.env.scope.names.lookup y = some .local)
    (hsw : swapsWith (.ListComp elt [⟨tg, iter, ifs, 0⟩] scope pos) (some (.Name y py)) spos.line X.env = pure true) (nd : (own.map (·.2)).Nodup) (hi : PI X tg iter (upI X.K T W ri)) (ok : BlkOk X.N X.env.scope scope own)
    (hg : ∀ (s : Shared) (H : Hp) (C : Addr) (cl : List (Str × Addr)) (fp : List Addr), PG (X.blk s H scope (compEnvC scope cl C X.env) fp) tg (upG X.K T (own.map (·.2)) g))
    (ht : ∀ (s : Shared) (H : Hp) (C : Addr) (cl : List (Str × Addr)) (fp : List Addr), PTs (X.blk s H scope (compEnvC scope cl C X.env) fp) ifs (upT X.K T (fun _ _ _ _ => False) t))
    (he : ∀ (s : Shared) (H : Hp) (C : Addr) (cl : List (Str × Addr)) (fp : List Addr), PE (X.blk s H scope (compEnvC scope cl C X.env) fp) elt (up X.K T (fun _ _ _ _ => False) re)) (hs : ∀ x, foldedSetIterable iter X.env x = pure x := by intro _; rfl) :
    PS X (.Assign [.Name y py] (.ListComp elt [⟨tg, iter, ifs, 0⟩] scope pos) spos) (upS X.K T W (sSet i (dF (fLc ri g t re (own.map (·.2)))))) := PSi (ps_setLc hc hN hy hyl hsw hi ok hg ht he hs) fun Dn σ H h => by
  obtain ⟨F, G, δ, Dd, R, hr, k⟩ := h
  refine up_lc nd σ H _ ⟨F, G, δ, Dd.xe, _, R, hr, k.x, fun G' H' p us xs δ' e R' a1 a2 a3 a4 a5 q => ?_⟩
  exact k.nx _ H' _ _ (e.trans (Ex.new a1)) ((frz1 R' a1 a2 a4 a5).setd (x := .lst xs) ⟨p, us, rfl, upd_same, RpL.mono (Ex.new a1) _ _ a3⟩) q
theorem ds_setLcF {i : Nat} {y : Str} {py : Pos} {elt tg iter : Expr} {ifs : List Expr} {scope : Scope} {own : List (Str × Nat)} {pos spos : Pos} {ri : DF} {g : DG} {t : DT} {re : DE} (hc : X.calm = true) (hN : X.N.Nodup) (hy : X.N[i]? = some y) (hyl : X.env.scope.names.lookup y = some .local)
    (hsw : swapsWith (.ListComp elt [⟨tg, iter, ifs, 0⟩] scope pos) (some (.Name y py)) spos.line X.env = pure true) (nd : (own.map (·.2)).Nodup) (hi : PI X tg iter (upI X.K T W ri)) (ok : BlkOk X.N X.env.scope scope own)
    (hg : ∀ (s : Shared) (H : Hp) (C : Addr) (cl : List (Str × Addr)) (fp : List Addr), PG (X.blk s H scope (compEnvC scope cl C X.env) fp) tg (upG X.K T (own.map (·.2)) g))
    (ht : ∀ (s : Shared) (H : Hp) (C : Addr) (cl : List (Str × Addr)) (fp : List Addr), PTs (X.blk s H scope (compEnvC scope cl C X.env) fp) ifs (upT X.K T (fun _ _ _ _ => False) t))
    (he : ∀ (s : Shared) (H : Hp) (C : Addr) (cl : List (Str × Addr)) (fp : List Addr), PE (X.blk s H scope (compEnvC scope cl C X.env) fp) elt (up X.K T (fun _ _ _ _ => False) re)) (hs : ∀ x, foldedSetIterable iter X.env x = pure x := by intro _; rfl) :
    PS X (.Assign [.Name y py] (.ListComp elt [⟨tg, iter, ifs, 0⟩] scope pos) spos) (upS X.K T W (sSetF i (fLc ri g t re (own.map (·.2))))) := PSi (ps_setLc hc hN hy hyl hsw hi ok hg ht he hs) fun Dn σ H h => by
  obtain ⟨F, G, δ, Dd, R, hr, k⟩ := h
  refine up_lc nd σ H _ ⟨F, G, δ, Dd.xe, _, R, hr, k.x, fun G' H' p us xs δ' e R' a1 a2 a3 a4 a5 q => ?_⟩
  exact k.nx G' H' _ _ e (R'.seto a2 a1 a3 a5 (.inr a4)) (q p a5)
end
/-! ### loops and comprehensions of pure turns, told at once -/
theorem passes_X {X : Cx} {P : Value → Shared → Prop} {E1 : Value → Shared → Prop} (hx : X.xe = fun e s' => wpAny (model X.prog X.w) X.A (leaving X.env e) (fun _ s'' => P e s'') E1 s') : PassesOwn (model X.prog X.w) X.A X.env X.xe := passes_of hx

def sPar3 (i j l : Nat) (s : DF) : DS := fun Dd δ => s Dd.xe δ fun xs δ' => match xs with
  | [x, y, z] => Dd.nx (((δ'.set i (.d x)).set j (.d y)).set l (.d z))
  | _ => False
section
variable {X : Cx} {W : WX}
theorem ds_par3 {i0 i1 i2 : Nat} {x y z : Str} {a b c : Expr} {sf : DF} {px py pz pt pos : Pos} {kt k2 pt2} (hc : X.calm = true) (hN : X.N.Nodup) (ha : PA X [a, b, c] (upA X.K T W sf)) (hi : X.N[i0]? = some x := by rfl) (hj : X.N[i1]? = some y := by rfl) (hl : X.N[i2]? = some z := by rfl) (hij : i0 ≠ i1 := by decide) (hil : i0 ≠ i2 := by decide) (hjl : i1 ≠ i2 := by decide)
    (hx : X.env.scope.names.lookup x = some .local := by rfl) (hy : X.env.scope.names.lookup y = some .local := by rfl) (hz : X.env.scope.names.lookup z = some .local := by rfl)
    (hw : swappedStores [.Tuple [.Name x px, .Name y py, .Name z pz] kt pt] (.Tuple [a, b, c] k2 pt2) X.env = pure (some [x, y, z]) := by rfl)
    (hs : swapsWithSole [.Tuple [.Name x px, .Name y py, .Name z pz] kt pt] (.Tuple [a, b, c] k2 pt2) pos.line X.env = pure false := by rfl) :
    PS X (.Assign [.Tuple [.Name x px, .Name y py, .Name z pz] kt pt] (.Tuple [a, b, c] k2 pt2) pos) (upS X.K T W (sPar3 i0 i1 i2 sf)) := PSi (ps_par3 hc hN hi hj hl hij hil hjl hx hy hz ha hw hs) fun Dn σ H h => by
  obtain ⟨F, G, δ, Dd, R, hr, k⟩ := h
  refine ⟨F, G, δ, Dd.xe, _, R, hr, k.x, fun G' H' vs ds δ' e R' p q => ?_⟩
  match ds, p, q with
  | [d1, d2, d3], p, q =>
    obtain ⟨v, r, rfl, h1, h2⟩ := p
    obtain ⟨v2, v3, rfl, h2, h3⟩ := two_of h2
    exact ⟨v, v2, v3, rfl, k.nx G' H' _ _ e (((R'.setd h1).setd h2).setd h3) q⟩
  | [], _, q => exact q.elim
  | [_], _, q => exact q.elim
  | [_, _], _, q => exact q.elim
  | _ :: _ :: _ :: _ :: _, _, q => exact q.elim
end
/-! ### the law's own end -/
theorem cx_none {P : Program} {w : World} {H : Hp} {s : Shared} {e : Value} {s' : Shared} (h : L2.CX P w [] H s (fun _ _ _ => False) e s') : False := by
  obtain ⟨_, _, _, _, _, _, _, _, _, _, _, _, z⟩ := h
  exact z.elim
theorem law_spT {K : PySem.W.Frag} {S : FS} {T : List (Addr × Str)} {H : Hp} {a : Addr} {ns : List Int} (hS : ∀ Qd Ed, Qd (.d (.bl true)) → S [.sq (ns.map D.int)] Qd Ed) (hT : LamX.Tabs T H) (h : SqL K H a (ns.map V.int)) :
    spA K T 1 S [.ref a] H (fun v _ => v = .bl true) fun _ _ _ => False := by
  let G : Hp := fun b => match H b with
    | some (.tbl _) => none
    | o => o
  have ge : ∀ b o, H b = some o → (∀ ps, o ≠ .tbl ps) → G b = some o := fun b o e n => by
    show (match H b with | some (.tbl _) => none | o => o) = _
    rw [e]
    cases o <;> first | rfl | exact absurd rfl (n _)
  have gx : Ex G H := fun b o e => by
    have e : (match H b with | some (.tbl _) => none | o => o) = some o := e
    split at e
    · cases e
    · exact e
  have gn : ∀ b ps, G b ≠ some (.tbl ps) := fun b ps e => by
    have e : (match H b with | some (.tbl _) => none | o => o) = some (HO.tbl ps) := e
    split at e
    · cases e
    · rename_i z
      exact z _ e
  have gs : SqL K G a (ns.map V.int) := by
    rcases h with (h | ⟨o, h⟩) | h
    · exact .inl (.inl (ge _ _ h fun _ z => nomatch z))
    · exact .inl (.inr ⟨o, ge _ _ h fun _ z => nomatch z⟩)
    · exact .inr h
  refine ⟨G, [.sq (ns.map D.int)], fun rv => rv = .d (.bl true), fun _ => False, rfl, ⟨hT, gn⟩, gx, ⟨.ref a, [], rfl, ⟨a, _, rfl, gs, RpL.ofInts ns⟩, rfl⟩, hS _ _ rfl, fun G' H' v rv _ hv q => ?_, fun _ _ _ _ z => z.elim⟩
  subst q
  exact hv
theorem law_spA {K : PySem.W.Frag} {S : FS} {H : Hp} {a : Addr} {ns : List Int} (hS : ∀ Qd Ed, Qd (.d (.bl true)) → S [.sq (ns.map D.int)] Qd Ed) (h : SqL K H a (ns.map V.int)) :
    spA K [] 1 S [.ref a] H (fun v _ => v = .bl true) fun _ _ _ => False := law_spT hS (fun p hp => absurd hp (by simp)) h
end DL


set_option Elab.async false
set_option linter.all false
set_option maxRecDepth 100000
/-! readings at known values, as equations -/
namespace DL
open PySem PySem.Spec PyProof.Rows L2
section
variable {Q : D → Prop} {R : List D → Prop} {B : Bool → Prop} {i j : Int} {x y : Str} {a b c d e : D} {xs ys l : List D} {p q : Bool} {lo hi : Option Int} {Y t : String}
theorem r_add_i : fAdd (.int i) (.int j) Q = Q (.int (i + j)) := rfl
theorem r_add_s : fAdd (.str x) (.str y) Q = (x.length + y.length ≤ sizeLine ∧ Q (.str (x ++ y))) := rfl
theorem r_add_t : fAdd (.tup xs) (.tup ys) Q = (xs.length + ys.length ≤ sizeLine ∧ Q (.tup (xs ++ ys))) := rfl
theorem r_sub : fSub (.int i) (.int j) Q = Q (.int (i - j)) := propext ⟨fun h => h.2, fun h => ⟨trivial, h⟩⟩
theorem r_mul : fMul (.int i) (.int j) Q = (MulOk i j ∧ Q (.int (i * j))) := rfl
theorem r_mod : fMod (.int i) (.int j) Q = (j ≠ 0 ∧ Q (.int (i.fmod j))) := rfl
theorem r_div : fDiv (.int i) (.int j) Q = (DivOk i j ∧ Q (.int (i.fdiv j))) := rfl
theorem r_pow : fPow (.int i) (.int j) Q = (CPow i j ∧ Q (.int (i ^ j.toNat))) := rfl
theorem r_lt : fLt (.int i) (.int j) Q = Q (.bl (decide (i < j))) := propext ⟨fun h => h.2, fun h => ⟨trivial, h⟩⟩
theorem r_le : fLe (.int i) (.int j) Q = Q (.bl (decide (i ≤ j))) := propext ⟨fun h => h.2, fun h => ⟨trivial, h⟩⟩
theorem r_gt : fGt (.int i) (.int j) Q = Q (.bl (decide (j < i))) := propext ⟨fun h => h.2, fun h => ⟨trivial, h⟩⟩
theorem r_ge : fGe (.int i) (.int j) Q = Q (.bl (decide (j ≤ i))) := propext ⟨fun h => h.2, fun h => ⟨trivial, h⟩⟩
theorem r_augp : fI (fun _ _ => True) (fun i j => .int (i + j)) (.int i) (.int j) Q = Q (.int (i + j)) := propext ⟨fun h => h.2, fun h => ⟨trivial, h⟩⟩
theorem r_augm : fI (fun _ _ => True) (fun i j => .int (i - j)) (.int i) (.int j) Q = Q (.int (i - j)) := propext ⟨fun h => h.2, fun h => ⟨trivial, h⟩⟩
theorem r_eq_nn : fEq .non .non Q = Q (.bl (true)) := rfl
theorem r_ne_nn : fNe .non .non Q = Q (.bl (!(true))) := rfl
theorem r_eq_nb : fEq .non (.bl q) Q = Q (.bl (false)) := rfl
theorem r_ne_nb : fNe .non (.bl q) Q = Q (.bl (!(false))) := rfl
theorem r_eq_ni : fEq .non (.int j) Q = Q (.bl (false)) := rfl
theorem r_ne_ni : fNe .non (.int j) Q = Q (.bl (!(false))) := rfl
theorem r_eq_ns : fEq .non (.str y) Q = Q (.bl (false)) := rfl
theorem r_ne_ns : fNe .non (.str y) Q = Q (.bl (!(false))) := rfl
theorem r_eq_bn : fEq (.bl p) .non Q = Q (.bl (false)) := rfl
theorem r_ne_bn : fNe (.bl p) .non Q = Q (.bl (!(false))) := rfl
theorem r_eq_bb : fEq (.bl p) (.bl q) Q = Q (.bl (decide (p = q))) := rfl
theorem r_ne_bb : fNe (.bl p) (.bl q) Q = Q (.bl (!(decide (p = q)))) := rfl
theorem r_eq_in : fEq (.int i) .non Q = Q (.bl (false)) := rfl
theorem r_ne_in : fNe (.int i) .non Q = Q (.bl (!(false))) := rfl
theorem r_eq_ii : fEq (.int i) (.int j) Q = Q (.bl (decide (i = j))) := rfl
theorem r_ne_ii : fNe (.int i) (.int j) Q = Q (.bl (!(decide (i = j)))) := rfl
theorem r_eq_is : fEq (.int i) (.str y) Q = Q (.bl (false)) := rfl
theorem r_ne_is : fNe (.int i) (.str y) Q = Q (.bl (!(false))) := rfl
theorem r_eq_sn : fEq (.str x) .non Q = Q (.bl (false)) := rfl
theorem r_ne_sn : fNe (.str x) .non Q = Q (.bl (!(false))) := rfl
theorem r_eq_si : fEq (.str x) (.int j) Q = Q (.bl (false)) := rfl
theorem r_ne_si : fNe (.str x) (.int j) Q = Q (.bl (!(false))) := rfl
theorem r_eq_ss : fEq (.str x) (.str y) Q = Q (.bl (decide (x = y))) := rfl
theorem r_ne_ss : fNe (.str x) (.str y) Q = Q (.bl (!(decide (x = y)))) := rfl
theorem r_eq_ll : fEq (.lst xs) (.lst ys) Q = (okE (.lst xs) = true ∧ okE (.lst ys) = true ∧ Q (.bl (PyData.eqv (D.toPy (.lst xs)) (D.toPy (.lst ys))))) := rfl
theorem r_ne_ll : fNe (.lst xs) (.lst ys) Q = (okE (.lst xs) = true ∧ okE (.lst ys) = true ∧ Q (.bl (!PyData.eqv (D.toPy (.lst xs)) (D.toPy (.lst ys))))) := rfl
theorem r_eq_lt : fEq (.lst xs) (.tup ys) Q = (okE (.lst xs) = true ∧ okE (.tup ys) = true ∧ Q (.bl (PyData.eqv (D.toPy (.lst xs)) (D.toPy (.tup ys))))) := rfl
theorem r_ne_lt : fNe (.lst xs) (.tup ys) Q = (okE (.lst xs) = true ∧ okE (.tup ys) = true ∧ Q (.bl (!PyData.eqv (D.toPy (.lst xs)) (D.toPy (.tup ys))))) := rfl
theorem r_eq_ln : fEq (.lst xs) .non Q = (okE (.lst xs) = true ∧ okE .non = true ∧ Q (.bl (PyData.eqv (D.toPy (.lst xs)) (D.toPy .non)))) := rfl
theorem r_ne_ln : fNe (.lst xs) .non Q = (okE (.lst xs) = true ∧ okE .non = true ∧ Q (.bl (!PyData.eqv (D.toPy (.lst xs)) (D.toPy .non)))) := rfl
theorem r_eq_li : fEq (.lst xs) (.int j) Q = (okE (.lst xs) = true ∧ okE (.int j) = true ∧ Q (.bl (PyData.eqv (D.toPy (.lst xs)) (D.toPy (.int j))))) := rfl
theorem r_ne_li : fNe (.lst xs) (.int j) Q = (okE (.lst xs) = true ∧ okE (.int j) = true ∧ Q (.bl (!PyData.eqv (D.toPy (.lst xs)) (D.toPy (.int j))))) := rfl
theorem r_eq_ls : fEq (.lst xs) (.str y) Q = (okE (.lst xs) = true ∧ okE (.str y) = true ∧ Q (.bl (PyData.eqv (D.toPy (.lst xs)) (D.toPy (.str y))))) := rfl
theorem r_ne_ls : fNe (.lst xs) (.str y) Q = (okE (.lst xs) = true ∧ okE (.str y) = true ∧ Q (.bl (!PyData.eqv (D.toPy (.lst xs)) (D.toPy (.str y))))) := rfl
theorem r_eq_lb : fEq (.lst xs) (.bl q) Q = (okE (.lst xs) = true ∧ okE (.bl q) = true ∧ Q (.bl (PyData.eqv (D.toPy (.lst xs)) (D.toPy (.bl q))))) := rfl
theorem r_ne_lb : fNe (.lst xs) (.bl q) Q = (okE (.lst xs) = true ∧ okE (.bl q) = true ∧ Q (.bl (!PyData.eqv (D.toPy (.lst xs)) (D.toPy (.bl q))))) := rfl
theorem r_eq_nl2 : fEq .non (.lst xs) Q = (okE .non = true ∧ okE (.lst xs) = true ∧ Q (.bl (PyData.eqv (D.toPy .non) (D.toPy (.lst xs))))) := rfl
theorem r_ne_nl2 : fNe .non (.lst xs) Q = (okE .non = true ∧ okE (.lst xs) = true ∧ Q (.bl (!PyData.eqv (D.toPy .non) (D.toPy (.lst xs))))) := rfl
theorem r_eq_il2 : fEq (.int j) (.lst xs) Q = (okE (.int j) = true ∧ okE (.lst xs) = true ∧ Q (.bl (PyData.eqv (D.toPy (.int j)) (D.toPy (.lst xs))))) := rfl
theorem r_ne_il2 : fNe (.int j) (.lst xs) Q = (okE (.int j) = true ∧ okE (.lst xs) = true ∧ Q (.bl (!PyData.eqv (D.toPy (.int j)) (D.toPy (.lst xs))))) := rfl
theorem r_eq_sl2 : fEq (.str y) (.lst xs) Q = (okE (.str y) = true ∧ okE (.lst xs) = true ∧ Q (.bl (PyData.eqv (D.toPy (.str y)) (D.toPy (.lst xs))))) := rfl
theorem r_ne_sl2 : fNe (.str y) (.lst xs) Q = (okE (.str y) = true ∧ okE (.lst xs) = true ∧ Q (.bl (!PyData.eqv (D.toPy (.str y)) (D.toPy (.lst xs))))) := rfl
theorem r_eq_bl2 : fEq (.bl q) (.lst xs) Q = (okE (.bl q) = true ∧ okE (.lst xs) = true ∧ Q (.bl (PyData.eqv (D.toPy (.bl q)) (D.toPy (.lst xs))))) := rfl
theorem r_ne_bl2 : fNe (.bl q) (.lst xs) Q = (okE (.bl q) = true ∧ okE (.lst xs) = true ∧ Q (.bl (!PyData.eqv (D.toPy (.bl q)) (D.toPy (.lst xs))))) := rfl
theorem r_eq_tl : fEq (.tup xs) (.lst ys) Q = (okE (.tup xs) = true ∧ okE (.lst ys) = true ∧ Q (.bl (PyData.eqv (D.toPy (.tup xs)) (D.toPy (.lst ys))))) := rfl
theorem r_ne_tl : fNe (.tup xs) (.lst ys) Q = (okE (.tup xs) = true ∧ okE (.lst ys) = true ∧ Q (.bl (!PyData.eqv (D.toPy (.tup xs)) (D.toPy (.lst ys))))) := rfl
theorem r_eq_tt : fEq (.tup xs) (.tup ys) Q = (okE (.tup xs) = true ∧ okE (.tup ys) = true ∧ Q (.bl (PyData.eqv (D.toPy (.tup xs)) (D.toPy (.tup ys))))) := rfl
theorem r_ne_tt : fNe (.tup xs) (.tup ys) Q = (okE (.tup xs) = true ∧ okE (.tup ys) = true ∧ Q (.bl (!PyData.eqv (D.toPy (.tup xs)) (D.toPy (.tup ys))))) := rfl
theorem r_eq_tn : fEq (.tup xs) .non Q = (okE (.tup xs) = true ∧ okE .non = true ∧ Q (.bl (PyData.eqv (D.toPy (.tup xs)) (D.toPy .non)))) := rfl
theorem r_ne_tn : fNe (.tup xs) .non Q = (okE (.tup xs) = true ∧ okE .non = true ∧ Q (.bl (!PyData.eqv (D.toPy (.tup xs)) (D.toPy .non)))) := rfl
theorem r_eq_ti : fEq (.tup xs) (.int j) Q = (okE (.tup xs) = true ∧ okE (.int j) = true ∧ Q (.bl (PyData.eqv (D.toPy (.tup xs)) (D.toPy (.int j))))) := rfl
theorem r_ne_ti : fNe (.tup xs) (.int j) Q = (okE (.tup xs) = true ∧ okE (.int j) = true ∧ Q (.bl (!PyData.eqv (D.toPy (.tup xs)) (D.toPy (.int j))))) := rfl
theorem r_eq_ts : fEq (.tup xs) (.str y) Q = (okE (.tup xs) = true ∧ okE (.str y) = true ∧ Q (.bl (PyData.eqv (D.toPy (.tup xs)) (D.toPy (.str y))))) := rfl
theorem r_ne_ts : fNe (.tup xs) (.str y) Q = (okE (.tup xs) = true ∧ okE (.str y) = true ∧ Q (.bl (!PyData.eqv (D.toPy (.tup xs)) (D.toPy (.str y))))) := rfl
theorem r_eq_tb : fEq (.tup xs) (.bl q) Q = (okE (.tup xs) = true ∧ okE (.bl q) = true ∧ Q (.bl (PyData.eqv (D.toPy (.tup xs)) (D.toPy (.bl q))))) := rfl
theorem r_ne_tb : fNe (.tup xs) (.bl q) Q = (okE (.tup xs) = true ∧ okE (.bl q) = true ∧ Q (.bl (!PyData.eqv (D.toPy (.tup xs)) (D.toPy (.bl q))))) := rfl
theorem r_eq_nt2 : fEq .non (.tup xs) Q = (okE .non = true ∧ okE (.tup xs) = true ∧ Q (.bl (PyData.eqv (D.toPy .non) (D.toPy (.tup xs))))) := rfl
theorem r_ne_nt2 : fNe .non (.tup xs) Q = (okE .non = true ∧ okE (.tup xs) = true ∧ Q (.bl (!PyData.eqv (D.toPy .non) (D.toPy (.tup xs))))) := rfl
theorem r_eq_it2 : fEq (.int j) (.tup xs) Q = (okE (.int j) = true ∧ okE (.tup xs) = true ∧ Q (.bl (PyData.eqv (D.toPy (.int j)) (D.toPy (.tup xs))))) := rfl
theorem r_ne_it2 : fNe (.int j) (.tup xs) Q = (okE (.int j) = true ∧ okE (.tup xs) = true ∧ Q (.bl (!PyData.eqv (D.toPy (.int j)) (D.toPy (.tup xs))))) := rfl
theorem r_eq_st2 : fEq (.str y) (.tup xs) Q = (okE (.str y) = true ∧ okE (.tup xs) = true ∧ Q (.bl (PyData.eqv (D.toPy (.str y)) (D.toPy (.tup xs))))) := rfl
theorem r_ne_st2 : fNe (.str y) (.tup xs) Q = (okE (.str y) = true ∧ okE (.tup xs) = true ∧ Q (.bl (!PyData.eqv (D.toPy (.str y)) (D.toPy (.tup xs))))) := rfl
theorem r_eq_bt2 : fEq (.bl q) (.tup xs) Q = (okE (.bl q) = true ∧ okE (.tup xs) = true ∧ Q (.bl (PyData.eqv (D.toPy (.bl q)) (D.toPy (.tup xs))))) := rfl
theorem r_ne_bt2 : fNe (.bl q) (.tup xs) Q = (okE (.bl q) = true ∧ okE (.tup xs) = true ∧ Q (.bl (!PyData.eqv (D.toPy (.bl q)) (D.toPy (.tup xs))))) := rfl
theorem r_is_bb : fIs (.bl p) (.bl q) Q = Q (.bl (decide (p = q))) := rfl
theorem r_isnt_bb : fIsnt (.bl p) (.bl q) Q = Q (.bl (!decide (p = q))) := rfl
theorem r_is_nn : fIs .non .non Q = Q (.bl true) := rfl
theorem r_isnt_nn : fIsnt .non .non Q = Q (.bl (!true)) := rfl
theorem r_is_in : fIs (.int i) .non Q = Q (.bl false) := rfl
theorem r_isnt_in : fIsnt (.int i) .non Q = Q (.bl (!false)) := rfl
theorem r_is_sn : fIs (.str x) .non Q = Q (.bl false) := rfl
theorem r_isnt_sn : fIsnt (.str x) .non Q = Q (.bl (!false)) := rfl
theorem r_is_ln : fIs (.lst xs) .non Q = Q (.bl false) := rfl
theorem r_isnt_ln : fIsnt (.lst xs) .non Q = Q (.bl (!false)) := rfl
theorem r_is_tn : fIs (.tup xs) .non Q = Q (.bl false) := rfl
theorem r_isnt_tn : fIsnt (.tup xs) .non Q = Q (.bl (!false)) := rfl
theorem r_is_bn : fIs (.bl p) .non Q = Q (.bl false) := rfl
theorem r_isnt_bn : fIsnt (.bl p) .non Q = Q (.bl (!false)) := rfl
theorem r_ix_l : fIx (.lst xs) (.int i) Q = ∃ x, atI xs i = some x ∧ Q x := rfl
theorem r_ix_t : fIx (.tup xs) (.int i) Q = ∃ x, atI xs i = some x ∧ Q x := rfl
theorem at0 : atI (a :: l) (0 : Int) = some a := atI_nat (j := 0) rfl
theorem at1 : atI (a :: b :: l) (1 : Int) = some b := atI_nat (j := 1) rfl
theorem at2 : atI (a :: b :: c :: l) (2 : Int) = some c := atI_nat (j := 2) rfl
theorem at3 : atI (a :: b :: c :: d :: l) (3 : Int) = some d := atI_nat (j := 3) rfl
theorem at4 : atI (a :: b :: c :: d :: e :: l) (4 : Int) = some e := atI_nat (j := 4) rfl
theorem ixn10 : ixN 1 (0 : Int) = some 0 := rfl
theorem ixn20 : ixN 2 (0 : Int) = some 0 := rfl
theorem ixn21 : ixN 2 (1 : Int) = some 1 := rfl
theorem ixn30 : ixN 3 (0 : Int) = some 0 := rfl
theorem ixn31 : ixN 3 (1 : Int) = some 1 := rfl
theorem ixn32 : ixN 3 (2 : Int) = some 2 := rfl
theorem ixn40 : ixN 4 (0 : Int) = some 0 := rfl
theorem ixn41 : ixN 4 (1 : Int) = some 1 := rfl
theorem ixn42 : ixN 4 (2 : Int) = some 2 := rfl
theorem ixn43 : ixN 4 (3 : Int) = some 3 := rfl
theorem ixn50 : ixN 5 (0 : Int) = some 0 := rfl
theorem ixn51 : ixN 5 (1 : Int) = some 1 := rfl
theorem ixn52 : ixN 5 (2 : Int) = some 2 := rfl
theorem ixn53 : ixN 5 (3 : Int) = some 3 := rfl
theorem ixn54 : ixN 5 (4 : Int) = some 4 := rfl
theorem r_sl_t : fSl (.tup xs) lo hi Q = Q (.tup (cut xs lo hi)) := rfl
theorem r_sl_l : fSl (.lst xs) lo hi Q = Q (.lst (cut xs lo hi)) := rfl
theorem r_sl_q : fSl (.sq xs) lo hi Q = Q (.lst (cut xs lo hi)) := rfl
theorem r_len_l : gLen [.lst xs] Q = Q (.int xs.length) := rfl
theorem r_len_t : gLen [.tup xs] Q = Q (.int xs.length) := rfl
theorem r_len_s : gLen [.str x] Q = (x.length ≤ sizeLine ∧ Q (.int x.length)) := rfl
theorem r_abs : gAbs [.int i] Q = Q (.int (if i < 0 then -i else i)) := rfl
theorem r_int_i : gInt [.int i] Q = Q (.int i) := rfl
theorem r_int_b : gInt [.bl p] Q = Q (.int (if p then 1 else 0)) := rfl
theorem r_max2 : gMax2 [.int i, .int j] Q = Q (.int (if j > i then j else i)) := rfl
theorem r_min2 : gMin2 [.int i, .int j] Q = Q (.int (if j < i then j else i)) := rfl
theorem r_sum : gSum [.lst xs] Q = ∃ ns : List Int, xs = ns.map D.int ∧ Q (.int ns.sum) := rfl
theorem r_any : gAny [.lst xs] Q = ∃ bs : List Bool, xs = bs.map D.bl ∧ Q (.bl (bs.any id)) := rfl
theorem r_all : gAll [.lst xs] Q = ∃ bs : List Bool, xs = bs.map D.bl ∧ Q (.bl (bs.all id)) := rfl
theorem r_tuple_l : gTuple [.lst xs] Q = Q (.tup xs) := rfl
theorem r_tuple_t : gTuple [.tup xs] Q = Q (.tup xs) := rfl
theorem r_list_l : gList [.lst xs] R = R xs := rfl
theorem r_list_t : gList [.tup xs] R = R xs := rfl
theorem r_isi : gIsi Y [a, .opq (.ty t)] Q = (noq a = true ∧ t = Y ∧ Q (.bl (isB Y a))) := rfl
theorem noq_n : noq .non = true := rfl
theorem noq_b : noq (.bl p) = true := rfl
theorem noq_i : noq (.int i) = true := rfl
theorem noq_s : noq (.str x) = true := rfl
theorem noq_l : noq (.lst xs) = true := rfl
theorem noq_t : noq (.tup xs) = true := rfl
theorem noq_q : noq (.sq xs) = true := rfl
theorem tru_n : tru .non B = B false := rfl
theorem tru_b : tru (.bl p) B = B p := rfl
theorem tru_i : tru (.int i) B = B (i != 0) := rfl
theorem tru_l : tru (.lst xs) B = B (!xs.isEmpty) := rfl
theorem tru_t : tru (.tup xs) B = B (!xs.isEmpty) := rfl
theorem isB_int_n : isB "int" .non = false := rfl
theorem isB_int_b : isB "int" (.bl p) = true := rfl
theorem isB_int_i : isB "int" (.int i) = true := rfl
theorem isB_int_s : isB "int" (.str x) = false := rfl
theorem isB_int_l : isB "int" (.lst xs) = false := rfl
theorem isB_int_t : isB "int" (.tup xs) = false := rfl
theorem isB_bool_n : isB "bool" .non = false := rfl
theorem isB_bool_b : isB "bool" (.bl p) = true := rfl
theorem isB_bool_i : isB "bool" (.int i) = false := rfl
theorem isB_bool_s : isB "bool" (.str x) = false := rfl
theorem isB_bool_l : isB "bool" (.lst xs) = false := rfl
theorem isB_bool_t : isB "bool" (.tup xs) = false := rfl
theorem isB_tuple_n : isB "tuple" .non = false := rfl
theorem isB_tuple_b : isB "tuple" (.bl p) = false := rfl
theorem isB_tuple_i : isB "tuple" (.int i) = false := rfl
theorem isB_tuple_s : isB "tuple" (.str x) = false := rfl
theorem isB_tuple_l : isB "tuple" (.lst xs) = false := rfl
theorem isB_tuple_t : isB "tuple" (.tup xs) = true := rfl
theorem isB_list_n : isB "list" .non = false := rfl
theorem isB_list_b : isB "list" (.bl p) = false := rfl
theorem isB_list_i : isB "list" (.int i) = false := rfl
theorem isB_list_s : isB "list" (.str x) = false := rfl
theorem isB_list_l : isB "list" (.lst xs) = true := rfl
theorem isB_list_t : isB "list" (.tup xs) = false := rfl
theorem isB_str_n : isB "str" .non = false := rfl
theorem isB_str_b : isB "str" (.bl p) = false := rfl
theorem isB_str_i : isB "str" (.int i) = false := rfl
theorem isB_str_s : isB "str" (.str x) = true := rfl
theorem isB_str_l : isB "str" (.lst xs) = false := rfl
theorem isB_str_t : isB "str" (.tup xs) = false := rfl
theorem isB_dict_n : isB "dict" .non = false := rfl
theorem isB_dict_b : isB "dict" (.bl p) = false := rfl
theorem isB_dict_i : isB "dict" (.int i) = false := rfl
theorem isB_dict_s : isB "dict" (.str x) = false := rfl
theorem isB_dict_l : isB "dict" (.lst xs) = false := rfl
theorem isB_dict_t : isB "dict" (.tup xs) = false := rfl
end
/-! comprehensions and loops, what they come to said ahead -/
theorem lc_ys {δ1 : Ev} {vs : List Nat} {xs : List D} {g : DG} {re : DE} {Q : List D → Ev → Prop} (ys : List D) (hl : ys.length = xs.length) (hz : xs.length ≤ sizeLine)
    (h : ∀ (i : Nat) (x y : D) (P : D → Ev → Prop), xs[i]? = some x → ys[i]? = some y → (∀ δ5, wipeD δ5 vs = wipeD δ1 vs → P y δ5) → g x (wipeD δ1 vs) fun δ3 => re (fun _ _ => False) δ3 P) (hq : Q ys (backD δ1 (wipeD δ1 vs) vs)) :
    lcG xs g tYesD re vs δ1 Q := by
  refine ⟨fun i acc δ2 => acc = ys.take i ∧ δ2 = wipeD δ1 vs, ⟨rfl, rfl⟩, ?_, ?_⟩
  · rintro i x acc δ2 hx ⟨rfl, rfl⟩
    have hi : i < xs.length := (List.getElem?_eq_some_iff.mp hx).1
    have hy : ys[i]? = some (ys[i]'(by omega)) := List.getElem?_eq_getElem _
    have hp := h i x _ (fun y δ5 => (ys.take i).length < sizeLine ∧ (ys.take i ++ [y] = ys.take (i + 1) ∧ wipeD δ5 vs = wipeD δ1 vs)) hx hy (fun δ5 h5 => ⟨by rw [List.length_take]; omega, by rw [List.take_succ, hy]; rfl, h5⟩)
    have e : (fun δ3 => re (fun _ _ => False) δ3 fun y δ5 => (ys.take i).length < sizeLine ∧ (ys.take i ++ [y] = ys.take (i + 1) ∧ wipeD δ5 vs = wipeD δ1 vs)) = fun δ3 => tYesD (fun _ _ => False) δ3 fun b δ4 => (b = true → re (fun _ _ => False) δ4 fun y δ5 => (ys.take i).length < sizeLine ∧ (ys.take i ++ [y] = ys.take (i + 1) ∧ wipeD δ5 vs = wipeD δ1 vs)) ∧
        (b = false → (ys.take i = ys.take (i + 1) ∧ wipeD δ4 vs = wipeD δ1 vs)) := by
      funext δ3
      unfold tYesD
      simp
    rw [← e]
    exact hp
  · rintro acc δ2 ⟨rfl, rfl⟩
    rw [← hl, List.take_length]
    exact hq
/-- the same, the test evaluated already -/
theorem lc_ys2 {δ1 : Ev} {vs : List Nat} {xs : List D} {g : DG} {t : DT} {re : DE} {Q : List D → Ev → Prop} (ys : List D) (ht : t = tYesD) (hl : ys.length = xs.length) (hz : xs.length ≤ sizeLine)
    (h : ∀ (i : Nat) (x y : D) (P : D → Ev → Prop), xs[i]? = some x → ys[i]? = some y → (∀ δ5, wipeD δ5 vs = wipeD δ1 vs → P y δ5) → g x (wipeD δ1 vs) fun δ3 => re (fun _ _ => False) δ3 P) (hq : Q ys (backD δ1 (wipeD δ1 vs) vs)) : lcG xs g t re vs δ1 Q := by
  rw [ht]
  exact lc_ys ys hl hz h hq
theorem cut_all {α : Type} {xs : List α} {n : Nat} (h : xs.length ≤ n) : cut xs none (some (n : Int)) = xs := by
  unfold cut
  rw [HT.sIx_none, HT.sIx_nat, Nat.min_eq_right h, List.drop_zero, Nat.sub_zero, List.take_length]
theorem ints_get {ns : List Int} {i : Nat} {x : D} (h : (ns.map D.int)[i]? = some x) : ∃ n, ns[i]? = some n ∧ x = .int n := by
  rw [List.getElem?_map] at h
  cases q : ns[i]? with
  | none => rw [q] at h; cases h
  | some n => rw [q] at h; exact ⟨n, rfl, (Option.some.inj h).symm⟩
theorem divOk_of {i j : Int} (h : 1 ≤ j) (hb : j.natAbs < 2 ^ 9000) : DivOk i j := ⟨by omega, .inr ⟨by omega, hb⟩⟩
theorem divOk_small {i j : Int} (h : 1 ≤ j) (hb : j < 1073741824) : DivOk i j := ⟨by omega, .inl (by omega)⟩
theorem mulL {i j : Int} (h1 : -(2 ^ 64) < i) (h2 : i < 2 ^ 64) : MulOk i j := .inl ⟨h1, h2⟩
theorem mulR {i j : Int} (h1 : -(2 ^ 64) < j) (h2 : j < 2 ^ 64) : MulOk i j := .inr (.inl ⟨h1, h2⟩)
theorem big_of {j : Int} (h0 : 0 ≤ j) (h : j ≤ 1000000000000000000) : j.natAbs < 2 ^ 9000 := Nat.lt_of_lt_of_le (show j.natAbs < 2 ^ 60 by omega) (Nat.pow_le_pow_right (by decide) (by decide))
theorem fmod_lo {i j : Int} (h : 1 ≤ j) : 0 ≤ i.fmod j := by rw [Int.fmod_eq_emod_of_nonneg i (by omega)]; exact Int.emod_nonneg _ (by omega)
theorem fmod_hi {i j : Int} (h : 1 ≤ j) : i.fmod j < j := by rw [Int.fmod_eq_emod_of_nonneg i (by omega)]; exact Int.emod_lt_of_pos _ (by omega)
theorem fdiv_lo {i j : Int} (h0 : 0 ≤ i) (h : 1 ≤ j) : 0 ≤ i.fdiv j := by rw [Int.fdiv_eq_ediv_of_nonneg i (by omega)]; exact Int.ediv_nonneg h0 (by omega)
end DL


set_option Elab.async false
set_option linter.all false
set_option maxRecDepth 100000
set_option autoImplicit true
namespace DL
open PySem PySem.Spec PyProof.Rows L2

/-! ### a lambda told to a teller -/
theorem Tb.ext {T : List (Addr × Str)} {G H H1 : Hp} (t : Tb T G H) (e : Ex G H) (e1 : LamX.ExtN H H1) (t1 : LamX.Tabs T H1) : Ex G H1 ∧ Tb T G H1 :=
  ⟨fun a o h => e1 a o (e a o h) fun ps z => t.2 a ps (by rw [h, z]), t1, t.2⟩
theorem Rel.extN {K : PySem.W.Frag} {T : List (Addr × Str)} {F : Fm} {G H H1 : Hp} {σ : L2.St} {δ : Ev} (R : Rel K T F G H σ δ) (e1 : LamX.ExtN H H1) (t1 : LamX.Tabs T H1) : Rel K T F G H1 σ δ := by
  obtain ⟨a, b⟩ := R.tab.ext R.ex e1 t1
  exact R.growN (Ex.refl G) e1 a (fun _ _ h => h) b
/-- the lambda's body is read with the owned lists frozen; fe: the answer to an error, fr: the answer to none -/
def dLam (fe : Addr → D → Prop) (fr : D) (rb : DE) : DE := fun _ δ Q => rb (fun C _ => ∃ y, fe C y ∧ flatD y = true ∧ Q y δ) (frz δ) (fun _ _ => flatD fr = true ∧ Q fr δ)
def TTd (K : PySem.W.Frag) (T : List (Addr × Str)) (fe : Addr → D → Prop) (fr : D) : (XK → Hp → VK → Prop) → Hp → VK → Prop := fun tl H Q =>
  ∀ (E1 : XK) (Q1 : VK), (∀ cls d H', (LamX.Tabs T H' ∧ ∃ C y, cls = .ref C ∧ d = none ∧ fe C y ∧ flatD y = true ∧ ∀ v H'', LamX.ExtN H' H'' → LamX.Tabs T H'' → Rp K (fun _ => none) y v → Q v H'') → E1 cls d H') →
    (∀ v H', (LamX.Tabs T H' ∧ flatD fr = true ∧ ∀ v H'', LamX.ExtN H' H'' → LamX.Tabs T H'' → Rp K (fun _ => none) fr v → Q v H'') → Q1 v H') → tl E1 H Q1
theorem up_lam {K : PySem.W.Frag} {T : List (Addr × Str)} {W : WX} {fe : Addr → D → Prop} {fr : D} {rb : DE} : ∀ σ H Q, up K T W (dLam fe fr rb) σ H Q → LamX.tLam T (TTd K T fe fr) (fun E => up K T (fun cls d _ H => E cls d H) rb) σ H Q := fun σ H Q h => by
  obtain ⟨F, G, δ, Xc, Qd, R, hr, hx, k⟩ := h
  refine ⟨R.tab.1, fun H1 e1 t1 E1 Q1 hE hQ => ?_⟩
  have R1 := R.extN e1 t1
  obtain ⟨F1, G1, R2, back⟩ := R1.frz
  have fin : ∀ {G' H' : Hp} {δ' : Ev} {y : D}, Ex G1 G' → Rel K T F1 G' H' σ δ' → flatD y = true → Qd y δ → ∀ v H'', LamX.ExtN H' H'' → LamX.Tabs T H'' → Rp K (fun _ => none) y v → Q v H'' := fun {G' H' δ' y} e R' fy q v H'' e2 t2 pv => by
    obtain ⟨G2, e3, R3⟩ := back G' H' _ _ e R'
    exact k G2 H'' v y δ e3 (R3.extN e2 t2) (flat_rp fy pv) q
  refine ⟨F1, G1, frz δ, _, _, R2, hr, fun G' H' δ' C e R' ⟨y, y1, y2, y3⟩ => hE _ _ _ ⟨R'.tab.1, C, y, rfl, rfl, y1, y2, fin e R' y2 y3⟩, fun G' H' v d δ' e R' p q => hQ _ _ ⟨R'.tab.1, q.1, fin e R' q.1 q.2⟩⟩
/-- the promise of a teller -/
def Tel (P : Program) (w : World) (K : PySem.W.Frag) (T : List (Addr × Str)) (mg : Str → Option Value) (base : Heap) (x q : Str) (fe : Addr → D → Prop) (fr : D) : Prop :=
  ∃ (g : Addr) (a : Str) (pg : Arguments) (bg : List Stmt) (sg : Scope) (dV kV doc pm cdv ct oc : Value) (an od : Option Addr) (osl : Array (Option Value)) (Ng : List Str),
    mg x = some (.ref g) ∧ PySem.W.keepIn K (.ref g) = true ∧ K.lookup g = some ⟨oc, od, .func (PySem.W.fnOf x x pg bg sg dV kV doc pm an cdv ct), osl⟩ ∧ PySem.W.codeIn K cdv x = true ∧
    L2.Binds K (PySem.W.fnOf x x pg bg sg dV kV doc pm an cdv ct) [a] [] ∧ FnScope Ng [a] sg ∧ Ng[0]? = some a ∧ Vis sg a ∧ (a == ("__debug__" : Str)) = false ∧ (a == ("__classdict__" : Str)) = false ∧
    ∀ (X : Cx) (k : Nat), X.prog = P → X.w = w → X.K = K → X.mg = mg → X.base = base → Room (k + 2) X.A → LamX.GivesTo X Ng x sg g cdv bg a q (TTd K T fe fr)
theorem dx_lam {X : Cx} {T : List (Addr × Str)} {W : WX} {fe : Addr → D → Prop} {fr : D} {rb : DE} {x q : Str} {c P : Addr} {k : Nat} {params : Arguments} {body : Expr} {scope : Scope} {p lpos pos : Pos} (D : Tel X.prog X.w X.K T X.mg X.base x q fe fr)
    (TB : LamX.TabB X.base X.mg c P) (hcode : X.env.code = .ref c) (hr : Room (k + 2) X.A)
    (hbody : ∀ (A : Around) (outer : List Env) (s : Shared) (H : Hp) (E : XK) (f c' : Addr), Room k (A.deeper (LamX.lamEnv X scope s.heap.objs.size f c')) → PE (LamX.lamCx X A outer s H E scope f c') body (up X.K T (fun cls d _ H => E cls d H) rb))
    (hmT : (P, q) ∈ T) (hu : ∀ p ∈ T, p.1 = P → p.2 = q) (hq : X.env.qual ++ "<lambda>" = q := by rfl) (L : LamX.LamS X.env.scope scope := by exact LamX.lamS_by (by decide +kernel)) (hg : Gl X x := by rfl)
    (hdef : defaultsOf params X.env = ([], []) := by rfl)
    (hbind : ∀ (q : Str) (cl : List (Str × Addr)) (pm cv ctv : Value), bindArgs (PySem.W.kla_fn "<lambda>" q params body scope cl pm cv ctv) ⟨[], []⟩ = pure [] := by intros; rfl)
    (hdb : (x == ("__debug__" : Str)) = false := by decide) : PE X (.Call (.Name x p) [.Lambda params body scope lpos] [] pos) (up X.K T W (dLam fe fr rb)) := by
  obtain ⟨g, a, pg, bg, sg, dV, kV, doc, pm, cdv, ct, oc, an, od, osl, Ng, h1, h2, h3, h4, h5, h6, h7, h8, h9, h10, h11⟩ := D
  subst hq
  exact PEi (LamX.pe_lamcall (t := fun E => up X.K T (fun cls d _ H => E cls d H) rb) hg h1 h2 h3 h4 h5 h6 h7 h8 (h11 X k rfl rfl rfl rfl rfl hr) TB hcode hmT hu hr L hdef hbind hbody hdb h9 h10) up_lam
theorem takes_lam {X : Cx} {A : Around} {outer : List Env} {s : Shared} {H : Hp} {E : XK} {scope : Scope} {f c' : Addr} : Takes (LamX.lamCx X A outer s H E scope f c') (fun cls d _ H => E cls d H) := takes_of rfl rfl rfl rfl
/-! ### the teller's own text -/
theorem pss_blank {X : Cx} {b : List Stmt} {t : TS} {i : Nat} {v : V} (h : PSs X b t) : PSs X b (fun D σ H => (σ.length = X.N.length → σ[i]? = some (some v)) ∧ t D ((List.replicate X.N.length none).set i (some v)) H) :=
  ⟨fun pins s σ H D I ⟨h1, h2⟩ => h.run pins s _ H D (I.weak (by rw [List.length_set, List.length_replicate, I.len]) fun j u e => by
    rw [List.getElem?_set] at e
    split at e
    · rename_i z
      subst z
      split at e
      · cases e
        exact h1 I.len
      · cases e
    · rw [List.getElem?_replicate] at e
      split at e <;> cases e) h2⟩
theorem SlL.us' {K : PySem.W.Frag} {G H : Hp} : ∀ n, SlL K G H (List.replicate n Sl.u) (List.replicate n none)
  | 0 => .nil
  | n + 1 => .cons trivial (SlL.us' n)
theorem owns_us : ∀ n i d, owns ((List.replicate n Sl.u).set i (.d d)) = []
  | 0, _, _ => rfl
  | n + 1, 0, d => owns_u n
  | n + 1, i + 1, d => owns_us n i d
theorem tel_core {Z : Cx} {T : List (Addr × Str)} {a x e : Str} {CS f c' : Addr} {i : Nat} {q : Str} {tl : XK → Hp → VK → Prop} {H : Hp} {Q : VK} {suite rest : List Stmt} {b₀ : Stmt} {rs : Addr → Value → Option Addr → DS} {rr : DS} {fe : Addr → D → Prop} {fr : D} {δ0 : Ev} {σ0 : L2.St} {p1 p2 p3 p4 p5 p6 : Pos}
    (hs : Z.stack = Z.env :: Z.outer) (hf : Z.env.frame = some Z.env.locals) (hN : Z.N.Nodup) (hi : Z.N[i]? = some e) (hln : Z.env.kindOf e = some .local) (hc : Names Z x (.ref CS))
    (act : ∀ (W : WX) (pn : List (Addr × Obj)) (xe : Value → Shared → Prop) (E : XK), Takes (Z.tr pn xe) W → (∀ cls d σ' H', E cls d H' → W cls d σ' H') → PE (Z.tr pn xe) (.Call (.Name a p1) [] [] p2) (fun σZ HZ Q => σZ[0]? = some (some (.ref f)) ∧ HZ c' = some (LamX.CodeO c' q) ∧ tl E HZ Q))
    (hsu : ∀ (a : Addr) (oe : Obj) (cls : Value) (d : Option Addr) (pn : List (Addr × Obj)), Zc cls d oe → (∃ vs, oe.data = .fields vs) → PSs (Z.suite a ((a, oe) :: pn)) (b₀ :: suite) (upS Z.K T (fun _ _ _ _ => False) (rs a cls d)))
    (hrest : PSs Z rest (upS Z.K T (fun _ _ _ _ => False) rr))
    (hd : ∀ C y, fe C y → PySem.W.exmOne Z.K (.ref C) (.ref CS) = some true ∧ ∀ a (Qd : Rf → Prop), Qd (Rf.d y) → rs a (.ref C) none { nx := fun δ' => rr (endA Qd fun _ => False) (δ'.set i .u), rt := fun rv _ => Qd rv.out } ((List.replicate Z.N.length .u).set i (.d (.opq (.ref a)))))
    (hn : ∀ Qd : Rf → Prop, Qd (Rf.d fr) → rr (endA Qd fun _ => False) δ0) (hsl : ∀ H', SlL Z.K (fun _ => none) H' δ0 σ0) (how : owns δ0 = []) (h0 : σ0[0]? = some (some (.ref f))) (hco : H c' = some (LamX.CodeO c' q))
    (h : TTd Z.K T fe fr tl H Q) (hsw : swapsWith (.Call (.Name a p1) [] [] p2) none p3.line Z.env = pure false := by rfl) :
    ∃ t, PSs Z (.Try [.Expr (.Call (.Name a p1) [] [] p2) p3] [.ExceptHandler (some (.Name x p4)) (some e) (b₀ :: suite) p5] [] [] p6 :: rest) t ∧ t { nx := fun _ H' => Q .non H', rt := Q } σ0 H := by
  refine ⟨_, pss_cons (ps_try_as (X := Z) (c := .ref CS) (i := i) (Wout := fun _ _ _ _ => False) (tb := fun W D σ H => ∃ Ech : XK, (∀ cls d σ' H', Ech cls d H' → W cls d σ' H') ∧ σ[0]? = some (some (.ref f)) ∧ H c' = some (LamX.CodeO c' q) ∧ tl Ech H (fun _ H' => D.nx σ H'))
    (ts := fun a cls d D σ H => (σ.length = Z.N.length → σ[i]? = some (some (.ref a))) ∧ upS Z.K T (fun _ _ _ _ => False) (rs a cls d) D ((List.replicate Z.N.length none).set i (some (.ref a))) H) hs hf hN hi hln hc LamX.takes0 (fun W pn xe tk _ => ⟨fun pins s' σ H' D I hh => ?_⟩) (fun a oe cls d pn hz hfld => pss_blank (hsu a oe cls d pn hz hfld))) hrest, ?_⟩
  · obtain ⟨Ech, hW, k1, k2, k3⟩ := hh
    exact (pss_one (ps_expr (act W pn xe Ech tk hW) hsw)).run pins s' σ H' D I ⟨k1, k2, k3⟩
  · have fin : ∀ {y : D} {H' : Hp}, flatD y = true → (∀ v H'', LamX.ExtN H' H'' → LamX.Tabs T H'' → Rp Z.K (fun _ => none) y v → Q v H'') → ∀ {G' H'' : Hp} {σ' : L2.St} {δ' : Ev} {v : V} {rv : Rv}, Rel Z.K T ⟨H', fun _ => none, []⟩ G' H'' σ' δ' → RvOk Z.K ⟨H', fun _ => none, []⟩ G' H'' rv v → rv.out = .d y → Q v H'' := fun {y H'} fy k {G' H'' σ' δ' v rv} R hv e => by
      cases rv with
      | d z =>
        cases e
        exact k v H'' (fun a o h1 h2 => R.keep a o (fun z => nomatch z) h1 h2) R.tab.1 (flat_rp fy hv)
      | o p xs => cases e
    have finN : ∀ {y : D} {H' : Hp}, flatD y = true → (∀ v H'', LamX.ExtN H' H'' → LamX.Tabs T H'' → Rp Z.K (fun _ => none) y v → Q v H'') → ∀ {G0 : Hp}, EndOk Z.K T (fun _ _ _ _ => False) ⟨H', fun _ => none, []⟩ G0 (endA (fun r => r = .d y) fun _ => False) { nx := fun _ H' => Q .non H', rt := Q } := fun {y H'} fy k {G0} =>
      ⟨fun G' H'' σ' δ' _ R q => fin fy k (v := .non) (rv := .d .non) R rfl q, fun G' H'' σ' δ' v rv _ R hv q => fin fy k R hv q, fun _ _ _ _ _ _ z => z.elim, fun _ _ _ _ _ _ z => z.elim, fun _ _ _ _ _ _ _ z => z.elim⟩
    refine ⟨fun cls d H' => LamX.Tabs T H' ∧ ∃ C y, cls = .ref C ∧ d = none ∧ fe C y ∧ flatD y = true ∧ ∀ v H'', LamX.ExtN H' H'' → LamX.Tabs T H'' → Rp Z.K (fun _ => none) y v → Q v H'', fun cls d σ' H' ⟨t1, C, y, e1, e2, f1, f2, k⟩ => ?_, h0, hco, h _ _ (fun _ _ _ z => z) fun v H' ⟨t1, f2, k⟩ => ?_⟩
    · subst e1 e2
      obtain ⟨x1, x2⟩ := hd C y f1
      refine ⟨true, x1, fun _ b nb => ⟨fun hl => ?_, ?_⟩, fun z => nomatch z⟩
      · have hi2 : i < Z.N.length := (List.getElem?_eq_some_iff.mp hi).1
        rw [List.getElem?_set_self (by rw [List.length_set] at hl; omega)]
      · refine ⟨⟨H', fun _ => none, []⟩, fun _ => none, _, _, ⟨(fun _ _ z => nomatch z), SlL.set (s := .d (.opq (.ref b))) i ⟨_, rfl, rfl⟩ (SlL.us' _), by rw [owns_us]; exact List.nodup_nil, (fun p hp => by rw [owns_us] at hp; cases hp), fun a o _ h _ => h, fun a h => h, fun a _ _ h => h, ⟨t1, (fun _ _ z => nomatch z)⟩⟩, x2 b (fun r => r = .d y) rfl, ?_⟩
        exact ⟨fun G' H'' σ' δ' _ R q => ⟨_, G', _, _, R.setu, q, finN f2 k⟩, fun G' H'' σ' δ' v rv _ R hv q => fin f2 k R hv q, fun _ _ _ _ _ _ z => z.elim, fun _ _ _ _ _ _ z => z.elim, fun _ _ _ _ _ _ _ z => z.elim⟩
    · exact ⟨⟨H', fun _ => none, []⟩, fun _ => none, δ0, _, ⟨(fun _ _ z => nomatch z), hsl H', by rw [how]; exact List.nodup_nil, (fun p hp => by rw [how] at hp; cases hp), fun a o _ h _ => h, fun a h => h, fun a _ _ h => h, ⟨t1, (fun _ _ z => nomatch z)⟩⟩, hn (fun r => r = .d fr) rfl, finN f2 k⟩
/-! ### isinstance of the caught error -/
def gIsE (K : PySem.W.Frag) (cls : Value) (d : Option Addr) (a : Addr) : List D → (D → Prop) → Prop
  | [.opq (.ref b), .opq c], Q => b = a ∧ d = none ∧ ∃ C cv bl, cls = .ref C ∧ ExcC K C ∧ (∀ u, RelV c u → u = cv) ∧ PySem.W.kitOne K (.ref C) cv = some bl ∧ Q (.bl bl)
  | _, _ => False
theorem lc_isE {K : PySem.W.Frag} {T : List (Addr × Str)} {cls : Value} {d : Option Addr} {a : Addr} : LeafC K T (fun xs H Q => ∃ C, cls = .ref C ∧ d = none ∧ ExcC K C ∧ rIsE K C a xs H Q) (gIsE K cls d a) := fun F G H σ δ ds vs Qd Q R p hf k => by
  unfold gIsE at hf
  split at hf
  · obtain ⟨v, w, rfl, h1, h2⟩ := two_of p
    obtain rfl := h1
    obtain rfl := h2
    obtain ⟨rfl, hd, C, cv, bl, e1, e2, e3, e4, q⟩ := hf
    exact ⟨C, e1, hd, e2, _, cv, bl, rfl, e3, e4, k G H _ (.bl bl) (Ex.refl G) R rfl q⟩
  · exact hf.elim
theorem cr_isE {Z : Cx} {a : Addr} {oe : Obj} {cls : Value} {d : Option Addr} {pn : List (Addr × Obj)} (hz : Zc cls d oe) (hf : ∃ vs, oe.data = .fields vs) : CallR (Z.suite a ((a, oe) :: pn)) (.builtin "isinstance") (fun xs H Q => ∃ C, cls = .ref C ∧ d = none ∧ ExcC Z.K C ∧ rIsE Z.K C a xs H Q) := by
  intro pins s σ H xs us Q I r h
  obtain ⟨C, e1, e2, e3, h⟩ := h
  subst e1 e2
  exact call_isE e3 hz hf pins s σ H xs us Q I r h
theorem dx_ref {X : Cx} {T : List (Addr × Str)} {W : WX} {x : Str} {C : Addr} {pos : Pos} (hm : X.mg x = some (.ref C)) (hg : Gl X x := by rfl) (hd : (x == ("__debug__" : Str)) = false := by decide) : PE X (.Name x pos) (up X.K T W (dC (.opq (.ref C)))) :=
  up_c (t := tC (.ref C)) (pe_glob (v := .ref C) hg hm rfl hd) fun _ => rfl
end DL


set_option Elab.async false
set_option linter.all false
set_option maxRecDepth 100000
set_option autoImplicit true
namespace DL
open PySem PySem.Spec PyProof.Rows L2

/-! ### xs.count(y), xs.index(y), the items flat -/
def rCntV (K : PySem.W.Frag) : V → List V → Hp → VK → Prop := fun x xs H Q => ∃ (a : Addr) (ys : List V) (y : V), x = V.ref a ∧ xs = [y] ∧ SqL K H a ys ∧ flatV y = true ∧ ys.all flatV = true ∧ Q (.int (ys.countP (fun z => eqV z y) : Nat)) H
theorem countP_eqU {x : V} : ∀ {xs : List V} {us : List Value}, Vals xs us → xs.all flatV = true → us.countP (eqU x) = xs.countP fun z => eqV z x
  | _, _, .nil, _ => rfl
  | y :: xs, u :: us, .cons r t, f => by
    rw [List.all_cons, Bool.and_eq_true] at f
    rw [List.countP_cons, List.countP_cons, eqU_of r f.1, countP_eqU t f.2]
theorem mt_cntV {X : Cx} : MtR X "list.count" (rCntV X.K) := by
  intro pins s σ H x xs v us Q I rx rxs h
  obtain ⟨a, ys, y, rfl, rfl, hs, fy, fys, q⟩ := h
  cases rx
  obtain ⟨uy, rfl, ry⟩ := rxs.one
  obtain ⟨its, rv, ⟨⟨cls, dd, data, sl⟩, n, ho, hc, hdn, hd⟩, hlen⟩ := I.list hs
  simp only at hc hd
  subst hc hd
  refine call_meets PySem.F.slot_list_count ⟨_, ho, rfl⟩ PySem.F.entry_list_count (PySem.F.args_list_count_2 _ _)
    (SeqAt.list_countAt a its.toArray n dd sl uy (eqU y)) ⟨ho, fun u' hu' => mem_eqAt ry fy rv fys u' (by simpa using hu'), ?_⟩
  have ec : its.toArray.toList.countP (eqU y) = ys.countP fun z => eqV z y := countP_eqU rv fys
  refine ⟨.int (ys.countP (fun z => eqV z y) : Nat), H, I.tok _, ⟨s.toks, ?_⟩, q⟩
  show Value.int ((its.toArray.toList.countP (eqU y) : Nat) : Int) s.toks = _
  rw [ec]
def cntD (y : D) (xs : List D) : Nat := xs.countP fun z => eqF z y
def gCnt (xs : List D) (y : D) (Q : D → Prop) : Prop := flatD y = true ∧ xs.all flatD = true ∧ Q (.int (cntD y xs : Nat))
def gIdx (xs : List D) (y : D) (Q : D → Prop) : Prop := flatD y = true ∧ xs.all flatD = true ∧ xs.any (fun z => eqF z y) = true ∧ Q (.int (xs.findIdx (fun z => eqF z y) : Nat))
def dMeth (f : List D → D → (D → Prop) → Prop) (ra rb : DE) : DE := fun Xc δ Q => ra Xc δ fun x δ1 => match x with
  | .lst xs => rb Xc δ1 fun y δ2 => f xs y fun z => Q z δ2
  | .sq xs => rb Xc δ1 fun y δ2 => f xs y fun z => Q z δ2
  | _ => False
section
variable {K : PySem.W.Frag} {G H : Hp}
theorem cnt_of {x : D} {v : V} (hx : flatD x = true) (p : Rp K G x v) : ∀ {xs : List D} {vs : List V}, xs.all flatD = true → RpL K G xs vs → vs.countP (fun z => eqV z v) = cntD x xs
  | [], _, _, q => by rw [show _ = _ from q]; rfl
  | d :: ds, _, h, q => by
    obtain ⟨w, r, rfl, h1, h2⟩ := q
    rw [List.all_cons, Bool.and_eq_true] at h
    show _ = (d :: ds).countP _
    rw [List.countP_cons, List.countP_cons, eqF_of h.1 hx h1 p, cnt_of hx p h.2 h2]
    rfl
theorem idx_of {x : D} {v : V} (hx : flatD x = true) (p : Rp K G x v) : ∀ {xs : List D} {vs : List V}, xs.all flatD = true → RpL K G xs vs → vs.any (fun z => eqV z v) = xs.any (fun z => eqF z x) ∧ vs.findIdx (fun z => eqV z v) = xs.findIdx (fun z => eqF z x)
  | [], _, _, q => by rw [show _ = _ from q]; exact ⟨rfl, rfl⟩
  | d :: ds, _, h, q => by
    obtain ⟨w, r, rfl, h1, h2⟩ := q
    rw [List.all_cons, Bool.and_eq_true] at h
    obtain ⟨i1, i2⟩ := idx_of hx p h.2 h2
    rw [List.any_cons, List.any_cons, List.findIdx_cons, List.findIdx_cons, eqF_of h.1 hx h1 p, i1, i2]
    exact ⟨rfl, rfl⟩
theorem idx_first {v : V} {vs : List V} (h : vs.any (fun z => eqV z v) = true) : ∃ z, vs[vs.findIdx (fun z => eqV z v)]? = some z ∧ eqV z v = true ∧ ∀ (m : Nat) (z' : V), m < vs.findIdx (fun z => eqV z v) → vs[m]? = some z' → eqV z' v = false := by
  have hl : vs.findIdx (fun z => eqV z v) < vs.length := by
    rw [List.any_eq_true] at h
    exact List.findIdx_lt_length.mpr h
  refine ⟨_, List.getElem?_eq_getElem hl, List.findIdx_getElem (p := fun z => eqV z v), fun m z' hm hz => ?_⟩
  obtain ⟨h1, rfl⟩ := List.getElem?_eq_some_iff.mp hz
  have := List.not_of_lt_findIdx hm
  simpa using this
end
section
variable {X : Cx} {T : List (Addr × Str)} {W : WX} {a b : Expr} {ra rb : DE} {apos pos : Pos}
theorem ty_l {K : PySem.W.Frag} {G H : Hp} {a : Addr} {us : List V} (e : Ex G H) (h : SqL K G a us) : tyV K "list" (.ref a) H := .inl ⟨rfl, us, ex_l e h⟩
theorem dx_count (ha : PE X a (up X.K T W ra)) (hb : PE X b (up X.K T W rb))
    (hbase : attributeBase a "count" X.env (eval a X.env) = eval a X.env := by rfl)
    (hfew : ((backTo pos (starEach [b] X.env)).all (fun x => !x.1) && (backToKw pos (keywordEach [] X.env)).all (fun x => x.1.isSome)
      && decide (([b] : List Expr).length + ([] : List Keyword).length + (if ([] : List Keyword).isEmpty then 0 else 1) < 30)) = true := by rfl)
    (hline : (apos.endLine == pos.line) = true := by rfl) (hs : starEach [b] X.env = (false, eval b X.env) :: starEach [] X.env := by rfl) (hplain : (backTo pos (starEach [] X.env)).any (·.1) = false := by rfl) :
    PE X (.Call (.Attribute a "count" apos) [b] [] pos) (up X.K T W (dMeth gCnt ra rb)) :=
  PEi (pe_bm PySem.F.plainAttrs_list PySem.F.slot_list_count PySem.F.type_list_count mt_cntV ha (pa_cons hb pa_nil hs) hbase hfew hline hs hplain) fun σ H Q h => by
  obtain ⟨F, G, δ, Xc, Qd, R, hr, hx, k⟩ := h
  refine ⟨F, G, δ, Xc, _, R, hr, hx, fun G1 H1 v d δ1 e1 R1 p1 q1 => ?_⟩
  cases d <;> first
    | exact q1.elim
    | (obtain ⟨p, us, rfl, z1, z2⟩ := p1
       refine ⟨by first | exact ty_l R1.ex z1 | exact ty_l R1.ex (.inl (.inl z1)), F, G1, δ1, Xc, _, R1, q1, fun G' H' δ' C e R' q => hx G' H' δ' C (e1.trans e) R' q, fun G2 H2 w y δ2 e2 R2 p2 q2 => ?_⟩
       have z3 := RpL.mono e2 _ _ z2
       have z4 : SqL X.K H2 p us := by first | exact ex_l (e2.trans R2.ex) z1 | exact ex_lt (e2.trans R2.ex) z1
       obtain ⟨f1, f2, q2⟩ := q2
       exact ⟨p, us, w, rfl, rfl, z4, flat_of f1 p2, flats_of f2 z3, k G2 H2 _ _ δ2 (e1.trans e2) R2 (by rw [cnt_of f1 p2 f2 z3]; rfl) q2⟩)
theorem dx_index (ha : PE X a (up X.K T W ra)) (hb : PE X b (up X.K T W rb))
    (hbase : attributeBase a "index" X.env (eval a X.env) = eval a X.env := by rfl)
    (hfew : ((backTo pos (starEach [b] X.env)).all (fun x => !x.1) && (backToKw pos (keywordEach [] X.env)).all (fun x => x.1.isSome)
      && decide (([b] : List Expr).length + ([] : List Keyword).length + (if ([] : List Keyword).isEmpty then 0 else 1) < 30)) = true := by rfl)
    (hline : (apos.endLine == pos.line) = true := by rfl) (hs : starEach [b] X.env = (false, eval b X.env) :: starEach [] X.env := by rfl) (hplain : (backTo pos (starEach [] X.env)).any (·.1) = false := by rfl) :
    PE X (.Call (.Attribute a "index" apos) [b] [] pos) (up X.K T W (dMeth gIdx ra rb)) :=
  PEi (pe_bm PySem.F.plainAttrs_list PySem.F.slot_list_index PySem.F.type_list_index mt_index ha (pa_cons hb pa_nil hs) hbase hfew hline hs hplain) fun σ H Q h => by
  obtain ⟨F, G, δ, Xc, Qd, R, hr, hx, k⟩ := h
  refine ⟨F, G, δ, Xc, _, R, hr, hx, fun G1 H1 v d δ1 e1 R1 p1 q1 => ?_⟩
  cases d <;> first
    | exact q1.elim
    | (obtain ⟨p, us, rfl, z1, z2⟩ := p1
       refine ⟨by first | exact ty_l R1.ex z1 | exact ty_l R1.ex (.inl (.inl z1)), F, G1, δ1, Xc, _, R1, q1, fun G' H' δ' C e R' q => hx G' H' δ' C (e1.trans e) R' q, fun G2 H2 w y δ2 e2 R2 p2 q2 => ?_⟩
       have z3 := RpL.mono e2 _ _ z2
       have z4 : SqL X.K H2 p us := by first | exact ex_l (e2.trans R2.ex) z1 | exact ex_lt (e2.trans R2.ex) z1
       obtain ⟨f1, f2, f3, q2⟩ := q2
       obtain ⟨i1, i2⟩ := idx_of f1 p2 f2 z3
       obtain ⟨z, y1, y2, y3⟩ := idx_first (i1.trans f3)
       exact ⟨p, us, w, _, z, rfl, rfl, z4, flat_of f1 p2, flats_of f2 z3, y1, y2, y3, k G2 H2 _ _ δ2 (e1.trans e2) R2 (by rw [i2]; rfl) q2⟩)
end
end DL


set_option Elab.async false
set_option linter.all false
set_option maxRecDepth 100000
set_option autoImplicit true
namespace DL
open PySem PySem.Spec PyProof.Rows L2
theorem b_ValueError : bootBuiltins "ValueError" = some (.type "ValueError") := by decide +kernel
/-- a def that makes lambdas: its code object is known -/
theorem fn_Ac {P : Program} {w : World} {K : PySem.W.Frag} {T : List (Addr × Str)} {mg : Str → Option Value} {base : Heap} {x qual : Str} {st : Stmt} {f : Addr} {N ps : List Str} {k n : Nat} {S : FS} {rd : DS} {dV kV doc pm cdv ct oc : Value} {an od : Option Addr} {osl : Array (Option Value)}
    (lk : K.lookup f = some ⟨oc, od, .func (PySem.W.fnOf x qual (defArgs st) (defBody st) (defScope st) dV kV doc pm an cdv ct), osl⟩) (hcd : PySem.W.codeIn K cdv qual = true) (Sc : FnScope N ps (defScope st)) (hn : ps.length = n)
    (hterm : ∀ (A : Around) (outer : List Env) (s : Shared) (H : Hp) (E : XK), Room k (A.deeper (envOfC qual (defScope st) s.heap.objs.size f cdv)) →
      PSs (cxOf (L2.CX P w) P w K mg base N qual (defScope st) f cdv A outer s H E) (defBody st) (upS K T (fun cls d _ H => E cls d H) rd))
    (hd : ∀ ds Qd Ed, ds.length = n → S ds Qd Ed → rd (endA Qd Ed) (argsD N.length ds)) : FnOk P w K mg base (L2.CX P w) (k + 1) f (PySem.W.fnOf x qual (defArgs st) (defBody st) (defScope st) dV kV doc pm an cdv ct) ps (spA K T n S) := by
  refine fn_of lk hcd Sc (fun vs H Q E h => ?_) (fun A outer s H vs Q E hr h => ⟨_, hterm A outer s H E hr, ?_⟩)
  · obtain ⟨G, ds, Qd, Ed, h1, _, h2, h3, _⟩ := h
    rw [h3.length, h1, hn]
  · obtain ⟨G, ds, Qd, Ed, h1, tb, h2, h3, h4, h5, h6⟩ := h
    have hl := h3.length
    refine ⟨⟨H, G, []⟩, G, argsD N.length ds, endA Qd Ed, ⟨h2, ?_, by rw [owns_args]; exact List.nodup_nil, (fun p hp => by rw [owns_args] at hp; cases hp), fun a o _ h _ => h, fun a h => h, fun a _ _ h => h, tb⟩, hd ds Qd Ed h1 h4, ⟨fun G' H' σ' δ' e R q => ?_, fun G' H' σ' δ' v rv e R hv q => ?_, fun _ _ _ _ _ _ z => z.elim, fun _ _ _ _ _ _ z => z.elim, fun G' H' σ' δ' C e R q => ?_⟩⟩
    · unfold L2.start argsD
      rw [hl]
      exact (start_sl (N := N) h3).app (SlL.us _)
    · exact h5 G' H' _ (.d .non) ⟨e, R.ex, fun a o h1 h2 h3 => R.keep a o h1 h2 h3, R.tab, R.there, R.gh⟩ rfl q
    · refine h5 G' H' v rv.out ⟨e, R.ex, fun a o h1 h2 h3 => R.keep a o h1 h2 h3, R.tab, R.there, R.gh⟩ ?_ q
      cases rv with
      | d x => exact hv
      | o p xs =>
        obtain ⟨rfl, a1, a2, us, a3, a4⟩ := hv
        rcases a2 with a2 | a2
        · cases a2
        · exact ⟨p, us, rfl, a2, a1, a3, a4⟩
    · exact h6 G' H' C ⟨e, R.ex, fun a o h1 h2 h3 => R.keep a o h1 h2 h3, R.tab, R.there, R.gh⟩ q
/-- the end of a law with one maker of lambdas -/
theorem law_at1 {l : PySem.W.OpenLaw} {w : World} {K : PySem.W.Frag} {k : Nat} {mg : Str → Option Value} {fa c P : Addr} {h : Heap} {S : FS} {fd : FuncData} {q : Str} (hT : ∀ p ∈ [P], h.get? p = some (PySem.W.tabObj #[])) (nT : K.lookup P = none) (X : K.In h) (hC : PySem.W.codeHdIn K c P = true)
    (hb : ∀ (s : Shared) (u : Value), BindsTo s fd ⟨[u], []⟩ [("script", u)]) (hS : ∀ (ns : List Int), ns.length ≤ 63 → ∀ Qd Ed, Qd (.d (.bl true)) → S [.sq (ns.map D.int)] Qd Ed)
    (hF : ∀ base : Heap, K.In base → base.Ns mainGlobals mg → LamX.TabB base mg c P → FnOk l.prog w K mg base (L2.CX l.prog w) k fa fd ["script"] (spA K [(P, q)] 1 S)) : LamX.LawAtS l w K (L2.CX l.prog w) k 63 "script" mg fa h := by
  have h1 : ∀ p ∈ [(c, P)], p = (c, P) := fun p hp => List.mem_singleton.mp hp
  refine ⟨fd, [(c, P)], spA K [(P, q)] 1 S, fun p hp => ?_, fun p hp => ?_, fun p hp => ?_, hb, fun H a ns hl _ ht hs => law_spT (hS ns hl) (fun p hp => ?_) hs, fun base a b t => hF base a b (t (c, P) List.mem_cons_self)⟩
  · rw [h1 p hp]; exact hT P List.mem_cons_self
  · rw [h1 p hp]; exact nT
  · rw [h1 p hp]; exact PySem.W.codeHd_of_K X hC
  · rw [List.mem_singleton.mp hp]
    exact LamX.TabS.nil (ht (c, P) List.mem_cons_self)
/-- an own class, as isinstance and except ask it -/
structure ErrI (K : PySem.W.Frag) (C S : Addr) : Prop where
  ec : ExcC K C
  xm : PySem.W.exmOne K (.ref C) (.ref S) = some true
  ve : PySem.W.kitOne K (.ref C) (.type "ValueError") = some true
end DL


set_option Elab.async false
set_option linter.all false
set_option maxRecDepth 100000
set_option autoImplicit true
namespace DL
open PySem PySem.Spec PyProof.Rows L2
theorem lay_ints : ∀ ns : List Int, PyData.canLayAll0 (toPyL (ns.map D.int)) = true
  | [] => by rw [List.map_nil, toPyL, PyData.canLayAll0]
  | n :: ns => by rw [List.map_cons, toPyL, PyData.canLayAll0, D.toPy, PyData.canLay0, lay_ints ns]; rfl
theorem dep_ints : ∀ ns : List Int, PyData.depthAll (toPyL (ns.map D.int)) = 0
  | [] => by rw [List.map_nil, toPyL, PyData.depthAll]
  | n :: ns => by rw [List.map_cons, toPyL, PyData.depthAll, D.toPy, PyData.depth, dep_ints ns]; rfl
theorem okE_tints (ns : List Int) : okE (.tup (ns.map D.int)) = true := by
  unfold okE SeqAt.shaped
  rw [D.toPy, PyData.canLay0, lay_ints, PyData.depth, dep_ints]
  decide
theorem okE_lints (ns : List Int) : okE (.lst (ns.map D.int)) = true := by
  unfold okE SeqAt.shaped
  rw [D.toPy, PyData.canLay0, lay_ints, PyData.depth, dep_ints]
  decide
theorem eqv_self {d : D} (h : okE d = true) : PyData.eqv d.toPy d.toPy = true := SeqAt.eqv_refl _ (okE_lay h)
/-- a told lambda that raises: the answer is y -/
theorem lam_y {fe : Addr → D → Prop} {fr : D} {rb : DE} {Xc : XC} {δ : Ev} {Q : D → Ev → Prop} (y : D) (hf : flatD y = true) (hr : ∀ (E : Addr → Prop) (R : D → Ev → Prop), (∀ C, fe C y → E C) → rb (fun C _ => E C) (frz δ) R) (hq : Q y δ) : dLam fe fr rb Xc δ Q :=
  hr _ _ fun C h => ⟨y, h, hf, hq⟩
/-- a told lambda that comes through -/
theorem lam_n {fe : Addr → D → Prop} {fr : D} {rb : DE} {Xc : XC} {δ : Ev} {Q : D → Ev → Prop} (hf : flatD fr = true) (hr : ∀ (E : XC) (P : Prop), P → rb E (frz δ) fun _ _ => P) (hq : Q fr δ) : dLam fe fr rb Xc δ Q :=
  hr _ _ ⟨hf, hq⟩
end DL


set_option Elab.async false
set_option linter.all false
set_option maxRecDepth 100000
set_option autoImplicit true
namespace DL
open PySem PySem.Spec PyProof.Rows L2
/-! ### a list that is changed no more -/
theorem owns_out {p : Addr} {xs : List D} : ∀ (δ : Ev) (j : Nat), δ[j]? = some (.o p xs) → (owns δ).Nodup → p ∉ owns (δ.set j .u)
  | [], _, h, _ => by simp at h
  | s :: δ, 0, h, nd => by
    rw [List.getElem?_cons_zero] at h
    cases h
    have nd : (p :: owns δ).Nodup := nd
    exact (List.nodup_cons.mp nd).1
  | s :: δ, j + 1, h, nd => by
    rw [List.getElem?_cons_succ] at h
    have e1 : owns (s :: δ) = List.filterMap Sl.own (s :: δ) := rfl
    show p ∉ List.filterMap Sl.own (s :: δ.set j .u)
    rw [e1, List.filterMap_cons] at nd
    rw [List.filterMap_cons]
    cases hs : s.own with
    | none =>
      rw [hs] at nd
      exact owns_out δ j h nd
    | some q =>
      rw [hs] at nd
      obtain ⟨n1, n2⟩ := List.nodup_cons.mp nd
      refine fun z => ?_
      rcases List.mem_cons.mp z with z | z
      · exact n1 (by rw [← z]; exact own_mem h)
      · exact owns_out δ j h n2 z
theorem Rel.freeze {K : PySem.W.Frag} {T : List (Addr × Str)} {F : Fm} {G H : Hp} {σ : L2.St} {δ : Ev} {j : Nat} {p : Addr} {xs : List D} (R : Rel K T F G H σ δ) (e : δ[j]? = some (.o p xs)) :
    ∃ us, Ex G (upd G p (.lst us)) ∧ Rel K T F (upd G p (.lst us)) H σ (δ.set j (.d (.lst xs))) := by
  obtain ⟨h1, h2, us, h3, h4⟩ := R.oget e
  have hj : j < σ.length := (List.getElem?_eq_some_iff.mp h1).1
  have hs : σ.set j (some (.ref p)) = σ := by
    rw [← (List.getElem?_eq_some_iff.mp h1).2]
    exact List.set_getElem_self hj
  have no := owns_out δ j e R.sep
  have R1 : Rel K T F G H σ (δ.set j .u) := by
    have := R.setu (i := j) (w := some (.ref p))
    rw [hs] at this
    exact this
  have R2 : Rel K T F (upd G p (.lst us)) H σ (δ.set j .u) := {
    ex := fun a o h => by
      by_cases z : a = p
      · rw [z, upd_same] at h
        rw [z, h3, ← h]
      · rw [upd_ne z] at h
        exact R.ex a o h
    sl := R1.sl.mono (Ex.new h2) fun q hq o' _ a b => ⟨a, by rw [upd_ne (fun z => no (by rw [← z]; exact hq))]; exact b⟩
    sep := R1.sep
    own := R1.own
    keep := R.keep
    there := R.there
    tab := ⟨R.tab.1, noT_upd R.tab.2 fun _ z => nomatch z⟩
    gh := fun a a0 a1 a2 => by
      by_cases z : a = p
      · rcases R.own p (own_mem e) with q | q
        · exact absurd (by rw [z]; exact q) a0
        · exact absurd (by rw [← z]; exact a1) q
      · rw [upd_ne z] at a2
        exact R.gh a a0 a1 a2 }
  refine ⟨us, Ex.new h2, ?_⟩
  have := R2.setd (i := j) (x := .lst xs) (v := .ref p) ⟨p, us, rfl, upd_same, RpL.mono (Ex.new h2) _ _ h4⟩
  rw [hs, List.set_set] at this
  exact this
/-- from here on slot j's list is data -/
def sFz (j : Nat) (r : DS) : DS := fun Dd δ => match δ[j]? with
  | some (.o _ xs) => r Dd (δ.set j (.d (.lst xs)))
  | _ => False
theorem ds_fz {X : Cx} {W : WX} {rest : List Stmt} {r : DS} (j : Nat) (h : PSs X rest (upS X.K T W r)) : PSs X rest (upS X.K T W (sFz j r)) := PSsi h fun Dn σ H h => by
  obtain ⟨F, G, δ, Dd, R, hr, k⟩ := h
  unfold sFz at hr
  split at hr
  · rename_i p xs hj
    obtain ⟨us, e, R'⟩ := R.freeze hj
    exact ⟨F, _, _, Dd, R', hr, k.mono e⟩
  · exact hr.elim
end DL


set_option Elab.async false
set_option linter.all false
set_option maxRecDepth 100000
set_option autoImplicit true
namespace DL
open PySem PySem.Spec PyProof.Rows L2
/-! ### sum of a tuple of ints -/
section
variable {prog : Program} {w : World} {A : Around} {E : Value → Shared → Prop} {s : Shared}
theorem sumT_raw {l : Addr} {its : List Value} {ns : List Int} {Q : Value → Shared → Prop} (hh : A.handled = none) (hl : s.heap.IsTuple l its.toArray) (hi : IntsAre its ns)
    (h : ∀ h' tk t', (∀ b o, s.heap.get? b = some o → h'.get? b = some o) → Q (.int ns.sum t') { s with heap := h', toks := tk }) : wpAny (model prog w) A (call (.builtin "sum") [.ref l]) Q E s := by
  obtain ⟨xs, e⟩ := hi.allInts.items
  have hn : numsOf (intItems xs).toList = ns := by rw [← e]; exact hi.numsOf
  rw [nums_intItems] at hn
  rw [e] at hl
  have hlt : l < s.heap.objs.size := by
    obtain ⟨_, eo, _⟩ := hl
    exact Heap.lt_size eo
  refine PySem.call_sum_walkG (wpAny_pyIter_tuple hl ?_)
  refine ⟨_, [_, l], [_], _, _, _, numAt xs, rfl, Walks.tuple (A := A.in1) hh _ l (Nat.ne_of_lt hlt) (intItems xs), ⟨⟨_, Heap.get?_push_size _ rfl, rfl, rfl⟩, hl.push _⟩, fun b hb => ?_, (fun _ _ => intItems_at), fun h' tk t' hk => ?_⟩
  · show b < (s.heap.push _).objs.size
    rw [Heap.size_push]
    rcases List.mem_cons.mp hb with hb | hb
    · rw [hb]; exact Nat.lt_succ_self _
    · rw [List.mem_singleton.mp hb]; exact Nat.lt_succ_of_lt hlt
  · have q := h h' tk t' fun b o e => hk b o (fun z => Nat.lt_irrefl _ ((List.mem_singleton.mp z) ▸ Heap.lt_size e)) (Heap.get?_push_of_some _ e)
    rw [show (intItems xs).size = xs.size by simp [intItems], preSum_eq, List.take_of_length_le (by simp), hn]
    exact q
end
def rSumT (K : PySem.W.Frag) : List V → Hp → VK → Prop := fun vs H Q => ∃ (a : Addr) (ns : List Int), vs = [V.ref a] ∧ SqT K H a (ns.map V.int) ∧ Q (.int ns.sum) H
theorem cr_sumT {X : Cx} (hc : X.calm = true) : CallR X (.builtin "sum") (rSumT X.K) := by
  intro pins s σ H vs us Q I r h
  obtain ⟨a, ns, rfl, hs, q⟩ := h
  obtain ⟨its, rv, hl, _⟩ := I.tuple hs
  rw [Vals.ref1 r]
  exact sumT_raw (I.ok.hd hc) (show s.heap.IsTuple a its.toArray from hl) rv.ints fun h' tk t' hk => ⟨.int _, H, I.kept hk, ⟨_, rfl⟩, q⟩
def gSumA : List D → (D → Prop) → Prop
  | [.lst xs], Q => ∃ ns : List Int, xs = ns.map D.int ∧ Q (.int ns.sum)
  | [.sq xs], Q => ∃ ns : List Int, xs = ns.map D.int ∧ Q (.int ns.sum)
  | [.tup xs], Q => ∃ ns : List Int, xs = ns.map D.int ∧ Q (.int ns.sum)
  | _, _ => False
theorem lc_sumA {K : PySem.W.Frag} {T : List (Addr × Str)} : LeafC K T (fun vs H Q => rSum K vs H Q ∨ rSumT K vs H Q) gSumA := fun F G H σ δ ds vs Qd Q R p hf k => by
  unfold gSumA at hf
  split at hf
  · obtain ⟨v, rfl, a, us, rfl, h1, h2⟩ := one_of p
    obtain ⟨ns, rfl, q⟩ := hf
    have := h2.ints
    subst this
    exact .inl ⟨a, ns, rfl, ex_lt R.ex h1, k G H _ (.int ns.sum) (Ex.refl G) R rfl q⟩
  · obtain ⟨v, rfl, a, us, rfl, h1, h2⟩ := one_of p
    obtain ⟨ns, rfl, q⟩ := hf
    have := h2.ints
    subst this
    exact .inl ⟨a, ns, rfl, ex_l R.ex h1, k G H _ (.int ns.sum) (Ex.refl G) R rfl q⟩
  · obtain ⟨v, rfl, a, us, rfl, h1, h2⟩ := one_of p
    obtain ⟨ns, rfl, q⟩ := hf
    have := h2.ints
    subst this
    exact .inr ⟨a, ns, rfl, ex_t R.ex h1, k G H _ (.int ns.sum) (Ex.refl G) R rfl q⟩
  · exact hf.elim
end DL


set_option Elab.async false
set_option linter.all false
set_option maxRecDepth 100000
set_option autoImplicit true
namespace DL
open PySem PySem.Spec PyProof.Rows L2 HT
/-! ### t[::-1] of a tuple -/
theorem adj_back (n : Nat) : Builtin.Slice.sliceAdjust none none (-1) (n : Int) = ((n : Int) - 1, -1) := rfl
theorem pl_back (n : Nat) : Builtin.Slice.slicePlaces ((n : Int) - 1) (-1) (-1) = n := by
  unfold Builtin.Slice.slicePlaces
  rw [if_neg (by decide)]
  by_cases h : n = 0
  · subst h; rfl
  · rw [if_pos (by omega)]
    rw [show -(-1 : Int) = 1 from rfl, Int.ediv_one]
    omega
theorem pk_back (xs : Array Value) : ((List.range xs.size).filterMap fun (m : Nat) => xs[((xs.size : Int) - 1 + (m : Int) * (-1)).toNat]?).toArray = xs.toList.reverse.toArray := by
  have e : (List.range xs.size).filterMap (fun (m : Nat) => xs[((xs.size : Int) - 1 + (m : Int) * (-1)).toNat]?) = ((List.range xs.size).map fun k => xs.size - 1 - k).filterMap (xs[·]?) := by
    rw [List.filterMap_map]
    congr 1
    funext m
    show _ = xs[xs.size - 1 - m]?
    have : ((xs.size : Int) - 1 + (m : Int) * (-1)).toNat = xs.size - 1 - m := by omega
    rw [this]
  rw [e, PySem.W.krv_range, List.filterMap_reverse, PySem.W.krv_all]
section
variable {prog : Program} {w : World} {A : Around} {E : Value → Shared → Prop} {s : Shared}
theorem app_back {c : Addr} {v1 v2 v3 : Value} {n : Nat} {R : Int × Int × Nat → Shared → Prop} (k : s.heap.IsSliceOf c v1 v2 v3) (a1 : IsPart v1 none) (a2 : IsPart v2 none) (a3 : IsPart v3 (some (-1)))
    (q : R ((n : Int) - 1, -1, n) s) : wpAny (model prog w) A (Builtin.Slice.sliceApplied (.ref c) (pure (n : Int))) R E s := by
  obtain ⟨ob, h1, h2, h3⟩ := id k
  unfold Builtin.Slice.sliceApplied Builtin.Slice.sliceFields
  refine wpAny_bind (wpAny_bind (wpAny_field h1 h3 (x := v1) rfl (wpAny_bind (wpAny_field h1 h3 (x := v2) rfl (wpAny_bind (wpAny_field h1 h3 (x := v3) rfl (wpAny_pure ?_)))))))
  refine wpAny_bind (slicePart_ a3 ?_)
  show wpAny _ _ (if ((-1 : Int) == 0) = true then _ else _) _ _ s
  rw [if_neg (by decide)]
  refine wpAny_bind (slicePart_ a1 (wpAny_bind (slicePart_ a2 (wpAny_bind (wpAny_pure ?_)))))
  show wpAny _ _ (match Builtin.Slice.sliceAdjust none none (-1) (n : Int) with | (x, y) => pure (x, (-1 : Int), Builtin.Slice.slicePlaces x y (-1))) _ _ s
  rw [adj_back n]
  show wpAny _ _ (pure ((n : Int) - 1, (-1 : Int), Builtin.Slice.slicePlaces ((n : Int) - 1) (-1) (-1))) _ _ s
  rw [pl_back]
  exact wpAny_pure q
theorem get_back {t c : Addr} {xs : Array Value} {v1 v2 v3 : Value} {R : Value → Shared → Prop} (ht : IsTup s.heap t xs) (k : s.heap.IsSliceOf c v1 v2 v3) (a1 : IsPart v1 none) (a2 : IsPart v2 none) (a3 : IsPart v3 (some (-1)))
    (q : R (.ref s.heap.objs.size) { s with heap := s.heap.push { cls := .type "tuple", data := .seq xs.toList.reverse.toArray } }) (z : xs.size ≤ sizeLine) : wpAny (model prog w) A (getItem (.ref t) (.ref c)) R E s := by
  have zz : sizeOk (.seq xs.toList.reverse.toArray) := by
    show xs.toList.reverse.toArray.size ≤ sizeLine
    rw [List.size_toArray, List.length_reverse, Array.length_toList]
    exact z
  obtain ⟨ob, h1, h2, h3⟩ := id k
  have ty : s.TypeIs (.ref c) "slice" := ⟨ob, h1, h2⟩
  unfold getItem
  try with_reducible refine wpAny_holding ?_
  try refine wpAny_bind (wpAny_pure ?_)
  refine wpAny_bind (wpAny_sequenceKey (show s.TypeIs (.ref t) "tuple" from ht.typeIs) (by decide) ?_)
  refine wpAny_bind (wpAny_callSpecial?_slot (name := Str.ofString "__getitem__") (show s.TypeIs (.ref t) "tuple" from ht.typeIs) PyProof.Rows.slot_tuple_getitem (wpAny_call_entry PyProof.Rows.slot_tuple_getitem (show s.TypeIs (.ref t) "tuple" from ht.typeIs) entry_tuple_getitem ?_ (args_tuple_getitem _ _)))
  show wpAny _ _ (Builtin.Tuple.tupleItemsOf (.ref t) >>= fun its => _) _ _ s
  refine wpAny_bind (tupleItemsOf_ ht (wpAny_bind (wpAny_typeOf ty ?_)))
  rw [if_pos (by decide)]
  refine wpAny_bind (app_back k a1 a2 a3 ?_)
  show wpAny _ _ (if ((xs.size : Int) - 1 == 0 && (-1 : Int) == 1 && xs.size == xs.size) = true then _ else _) _ _ s
  rw [if_neg (by simp), pk_back]
  first
    | exact wpAny_bind (m := Builtin.Tuple.tupleExact _) (wpAny_newObj_type (wpAny_pure ⟨_, rfl, wpAny_pure q⟩) zz)
    | exact wpAny_bind (m := Builtin.Tuple.tupleExact _) (wpAny_newObj_type (wpAny_bind (wpAny_pure (wpAny_pure ⟨_, rfl, wpAny_pure q⟩))) zz)
    | exact wpAny_bind (wpAny_bind (m := Builtin.Tuple.tupleExact _) (wpAny_newObj_type (wpAny_pure (wpAny_pure ⟨_, rfl, wpAny_pure q⟩)) zz))
    | exact wpAny_bind (wpAny_bind (m := Builtin.Tuple.tupleExact _) (wpAny_newObj_type (wpAny_pure ⟨_, rfl, wpAny_pure q⟩) zz))
end
def tRevT (K : PySem.W.Frag) (te : TE) : TE := fun σ H Q => te σ H fun x H1 => ∃ a xs, x = .ref a ∧ SqT K H1 a xs ∧ ∀ p, H1 p = none → Q (.ref p) (upd H1 p (.tup xs.reverse))
section
variable {X : Cx} {T : List (Addr × Str)} {W : WX}
theorem pe_revT {e : Expr} {te : TE} {k : Nat} {p1 p2 p3 pos : Pos} (he : PE X e te) : PE X (.Subscript e (.Slice none none (some (.UnaryOp .USub (.Constant (.int 1) k p1) p2)) p3) pos) (tRevT X.K te) := by
  refine ⟨fun pins s σ H Q I h => Subscript_ (thn (he.run pins s σ H _ I h) fun v s1 ⟨x, H1, I1, r1, q1⟩ => ?_)⟩
  obtain ⟨a, xs, rfl, hx, q⟩ := q1
  cases r1
  have st : PO X (some (.UnaryOp .USub (.Constant (.int 1) k p1) p2)) (tPart (tUn (rU fun i => .int (-i)) (tC (.int 1)))) := po_some (pe_un un_neg pe_int)
  refine wpAny_Slice (thn (po_none.run pins s1 σ H1 (fun o H2 => o = none ∧ H2 = H1) I1 ⟨rfl, rfl⟩) fun vl s2 ⟨_, _, I2, pl, el, e2⟩ => ?_)
  cases el; cases e2
  refine thn (po_none.run pins s2 σ _ (fun o H3 => o = none ∧ H3 = H1) I2 ⟨rfl, rfl⟩) fun vu s3 ⟨_, _, I3, pu, eu, e3⟩ => ?_
  cases eu; cases e3
  refine thn (st.run pins s3 σ _ (fun o H4 => o = some (-1) ∧ H4 = H1) I3 ⟨1, rfl, -1, rfl, rfl, rfl⟩) fun vs s4 ⟨_, _, I4, ps, eo, e4⟩ => ?_
  cases eo; cases e4
  have I5 : Inv X pins σ H1 { s4 with heap := s4.heap.push { cls := .type "slice", data := .fields #[vl, vu, vs] } } := I4.kept (t' := s4.toks) fun b ob z => Heap.get?_push_of_some _ z
  obtain ⟨its, r, ht, hz⟩ := I5.tuple hx
  have hlen := r.length
  show wpAny (model X.prog X.w) X.A (subscriptTail e (.Slice none none (some (.UnaryOp .USub (.Constant (.int 1) k p1) p2)) p3) (.ref a) (.ref s4.heap.objs.size)) (EP X pins σ Q) X.xe _
  refine tail_any (ops := [.ref a, .ref s4.heap.objs.size]) ht.typeIs (PyProof.Rows.slot_tuple_getitem.lookup) ?_ (by with_unfolding_all rfl)
  refine get_back ht (Heap.IsSliceOf.new _ vl vu vs) pl pu ps ?_ (by rw [List.size_toArray]; omega)
  refine ⟨.ref _, _, I5.laid (t' := s4.toks) (o := .tup xs.reverse) (fun b ob z => Heap.get?_push_of_some _ z) (Nat.le_refl _) ?_, rfl, q _ (I5.hok.fresh (Nat.le_refl _))⟩
  exact ⟨by rw [List.length_reverse]; exact hz, its.reverse, r.reverse, IsTup.new _ _⟩
end
end DL


set_option Elab.async false
set_option linter.all false
set_option maxRecDepth 100000
set_option autoImplicit true
namespace DL
open PySem PySem.Spec PyProof.Rows L2
def dRevSl (ra : DE) : DE := fun Xc δ Q => ra Xc δ fun x δ1 => match x with
  | .tup xs => Q (.tup xs.reverse) δ1
  | _ => False
def fRevSl (ra : DE) : DF := fun Xc δ Q => ra Xc δ fun x δ1 => match x with
  | .lst xs => Q xs.reverse δ1
  | .sq xs => Q xs.reverse δ1
  | _ => False
section
variable {X : Cx} {T : List (Addr × Str)} {W : WX} {a : Expr} {ra : DE} {k : Nat} {p1 p2 p3 pos : Pos}
theorem dx_revSl (ha : PE X a (up X.K T W ra)) : PE X (.Subscript a (.Slice none none (some (.UnaryOp .USub (.Constant (.int 1) k p1) p2)) p3) pos) (up X.K T W (dRevSl ra)) := PEi (pe_revT ha) fun σ H Q h => by
  obtain ⟨F, G, δ, Xc, Qd, R, hr, hx, kk⟩ := h
  refine ⟨F, G, δ, Xc, _, R, hr, hx, fun G1 H1 v d δ1 e1 R1 p1 q1 => ?_⟩
  cases d with
  | tup xs =>
    obtain ⟨b, us, rfl, z1, z2⟩ := p1
    refine ⟨b, us, rfl, ex_t R1.ex z1, fun p hp => ?_⟩
    have e2 : Ex G1 (upd G1 p (.tup us.reverse)) := Ex.new (R1.ex.back hp)
    exact kk _ _ (.ref p) (.tup xs.reverse) δ1 (e1.trans e2) (R1.alloc hp) ⟨p, us.reverse, rfl, .inl (.inl upd_same), RpL.mono e2 _ _ (RpL.rev z2)⟩ q1
  | _ => exact q1.elim
theorem df_revSl (ha : PE X a (up X.K T W ra)) : PE X (.Subscript a (.Slice none none (some (.UnaryOp .USub (.Constant (.int 1) k p1) p2)) p3) pos) (upF X.K T W (fRevSl ra)) := PEi (pe_revL ha) fun σ H Q h => by
  obtain ⟨F, G, δ, Xc, Qd, R, hr, hx, kk⟩ := h
  refine ⟨F, G, δ, Xc, _, R, hr, hx, fun G1 H1 v d δ1 e1 R1 p1 q1 => ?_⟩
  cases d with
  | lst xs =>
    obtain ⟨b, us, rfl, z1, z2⟩ := p1
    exact ⟨b, us, rfl, ex_lt R1.ex z1, newF (us := us.reverse) (ds := xs.reverse) e1 R1 (RpL.rev z2) q1 kk⟩
  | sq xs =>
    obtain ⟨b, us, rfl, z1, z2⟩ := p1
    exact ⟨b, us, rfl, ex_l R1.ex z1, newF (us := us.reverse) (ds := xs.reverse) e1 R1 (RpL.rev z2) q1 kk⟩
  | _ => exact q1.elim
end
/-! ### xs[i], xs[j] = e -/
def sSet2 (j : Nat) (re r1 r2 : DE) : DS := fun Dd δ => match δ[j]? with
  | some (.o _ _) => re Dd.xe δ fun x δ1 => match x with
    | .tup [a, b] => r1 Dd.xe δ1 fun i δ2 => match δ2[j]?, i with
      | some (.o p xs), .int i => ∃ n, ixN xs.length i = some n ∧ r2 Dd.xe (δ2.set j (.o p (xs.set n a))) fun i2 δ3 => match δ3[j]?, i2 with
        | some (.o p xs), .int i2 => ∃ n, ixN xs.length i2 = some n ∧ Dd.nx (δ3.set j (.o p (xs.set n b)))
        | _, _ => False
      | _, _ => False
    | _ => False
  | _ => False
theorem ds_set2 {X : Cx} {T : List (Addr × Str)} {W : WX} {e b1 b2 : Expr} {re r1 r2 : DE} (j : Nat) {x : Str} {px1 px2 q1 q2 q3 pos : Pos} {kk : Nat} (hc : X.calm = true) (he : PE X e (up X.K T W re)) (h1 : PE X b1 (up X.K T W r1)) (h2 : PE X b2 (up X.K T W r2)) (hN : X.N[j]? = some x := by rfl)
    (hv : Vis X.env.scope x := by first | exact Or.inl rfl | exact Or.inr (Or.inl rfl) | exact Or.inr (Or.inr rfl)) (hd : (x == ("__debug__" : Str)) = false := by decide) (hcd : (x == ("__classdict__" : Str)) = false := by decide)
    (hsto1 : ∀ v, assign (.Subscript (.Name x px1) b1 q1) X.env v = (do
      let ov ← holding [v] (eval (.Name x px1) X.env)
      let iv ← holding [v, ov] (eval b1 X.env)
      standAt q1
      holding [v, ov, iv] (setItem ov iv v)
      release [v, ov, iv] []) := by intro _; rfl)
    (hsto2 : ∀ v, assign (.Subscript (.Name x px2) b2 q2) X.env v = (do
      let ov ← holding [v] (eval (.Name x px2) X.env)
      let iv ← holding [v, ov] (eval b2 X.env)
      standAt q2
      holding [v, ov, iv] (setItem ov iv v)
      release [v, ov, iv] []) := by intro _; rfl)
    (hs1 : (assignEach [.Subscript (.Name x px1) b1 q1, .Subscript (.Name x px2) b2 q2] X.env).map (·.2) = assign (.Subscript (.Name x px1) b1 q1) X.env :: (assignEach [.Subscript (.Name x px2) b2 q2] X.env).map (·.2) := by rfl)
    (hs2 : (assignEach [.Subscript (.Name x px2) b2 q2] X.env).map (·.2) = assign (.Subscript (.Name x px2) b2 q2) X.env :: (assignEach [] X.env).map (·.2) := by rfl)
    (hn : (assignEach [.Subscript (.Name x px1) b1 q1, .Subscript (.Name x px2) b2 q2] X.env).length = 2 := by rfl) (hst : (assignEach [.Subscript (.Name x px1) b1 q1, .Subscript (.Name x px2) b2 q2] X.env).findIdx? (·.1) = none := by rfl)
    (hs : swapsWithSole [.Tuple [.Subscript (.Name x px1) b1 q1, .Subscript (.Name x px2) b2 q2] kk q3] e pos.line X.env = pure false := by rfl) (hw : swappedStores [.Tuple [.Subscript (.Name x px1) b1 q1, .Subscript (.Name x px2) b2 q2] kk q3] e X.env = pure none := by rfl)
    (hm : (assignEach [.Tuple [.Subscript (.Name x px1) b1 q1, .Subscript (.Name x px2) b2 q2] kk q3] X.env).map (·.2) = [assign (.Tuple [.Subscript (.Name x px1) b1 q1, .Subscript (.Name x px2) b2 q2] kk q3) X.env] := by rfl) :
    PS X (.Assign [.Tuple [.Subscript (.Name x px1) b1 q1, .Subscript (.Name x px2) b2 q2] kk q3] e pos) (upS X.K T W (sSet2 j re r1 r2)) :=
  PSi (ps_asg he (pg_tup hc (pgs_cons (pg_sub (pe_var hN hv hd hcd) h1 set_list hsto1) (pgs_cons (pg_sub (pe_var hN hv hd hcd) h2 set_list hsto2) pgs_nil hs2) hs1) hn hst) hs hw hm) fun Dn σ H h => by
  obtain ⟨F, G, δ, Dd, R, hr, k⟩ := h
  unfold sSet2 at hr
  split at hr
  · rename_i p0 xs0 hj0
    obtain ⟨h0, _⟩ := R.oget hj0
    refine ⟨F, G, δ, Dd.xe, _, R, hr, k.x, fun G1 H1 w d δ1 e1 R1 pp qq => ?_⟩
    split at qq
    · rename_i a b
      obtain ⟨c, us, rfl, z1, z2⟩ := pp
      obtain ⟨v1, r', rfl, y1, v2, r'', rfl, y2, e9⟩ := z2
      obtain rfl : r'' = [] := e9
      refine ⟨c, _, rfl, ex_t R1.ex z1, rfl, v1, _, rfl, _, h0, F, G1, δ1, Dd.xe, _, R1, qq, (k.mono e1).x, fun G2 H2 w2 d2 δ2 e2 R2 p2 q2 => ?_⟩
      split at q2
      · rename_i p xs i hj
        obtain ⟨g2, g3, us2, g4, g5⟩ := R2.oget hj
        rw [h0] at g2
        cases g2
        obtain ⟨n, hn, q2⟩ := q2
        have R3 := R2.mut hj (g5.set n (Rp.mono e2 _ _ y1))
        refine ⟨p0, us2, _, n, rfl, p2, g4, g5.setN hn, v2, _, rfl, _, h0, F, G2, _, Dd.xe, _, R3, q2, (k.mono (e1.trans e2)).x, fun G4 H4 w4 d4 δ4 e4 R4 p4 q4 => ?_⟩
        split at q4
        · rename_i p xs i2 hj4
          obtain ⟨f2, f3, us4, f4, f5⟩ := R4.oget hj4
          rw [h0] at f2
          cases f2
          obtain ⟨n4, hn4, q4⟩ := q4
          exact ⟨p0, us4, _, n4, rfl, p4, f4, f5.setN hn4, rfl, k.nx G4 _ σ _ ((e1.trans e2).trans e4) (R4.mut hj4 (f5.set n4 (Rp.mono (e2.trans e4) _ _ y2))) q4⟩
        · exact q4.elim
      · exact q2.elim
    · exact qq.elim
  · exact hr.elim
end DL


set_option Elab.async false
set_option linter.all false
set_option maxRecDepth 100000
set_option autoImplicit true
namespace DL
open PySem PySem.Spec PyProof.Rows L2 RT
theorem RpL.back {K : PySem.W.Frag} {G : Hp} {ds : List D} {vs : List V} {i : Nat} {x : D} (h : RpL K G ds vs) (e : ds.reverse[i]? = some x) : i < vs.length ∧ ∃ v, vs[vs.length - 1 - i]? = some v ∧ Rp K G x v := by
  have hl : i < ds.length := by
    have := (List.getElem?_eq_some_iff.mp e).1
    rwa [List.length_reverse] at this
  rw [List.getElem?_reverse hl] at e
  rw [h.length]
  exact ⟨hl, h.get e⟩
theorem itok_v {K : PySem.W.Frag} {T : List (Addr × Str)} {G : Hp} {a : Addr} {xs : List D} {us : List V} (h : SqL K G a us) (p : RpL K G xs us) : ItOk K T G (Itv K a us.length) xs.reverse := fun F G1 H1 σ1 δ1 i e R => by
  have h1 : SqL K H1 a us := ex_l (e.trans R.ex) h
  refine ⟨fun hi => by rw [List.length_reverse] at hi; show us.length ≤ i; rw [p.length]; exact hi, fun x hx => ?_⟩
  obtain ⟨hl, v, hv, pv⟩ := p.back hx
  refine ⟨⟨hl, us, v, h1, hv⟩, fun w H2 ⟨e2, hw⟩ => ?_⟩
  subst e2
  have := hw us h1
  rw [hv] at this
  cases this
  exact ⟨G1, Ex.refl G1, R, Rp.mono e _ _ pv⟩
theorem itok_vt {K : PySem.W.Frag} {T : List (Addr × Str)} {G : Hp} {a : Addr} {xs : List D} {us : List V} (h : SqT K G a us) (p : RpL K G xs us) : ItOk K T G (ItvT K a us.length) xs.reverse := fun F G1 H1 σ1 δ1 i e R => by
  have h1 : SqT K H1 a us := ex_t (e.trans R.ex) h
  refine ⟨fun hi => by rw [List.length_reverse] at hi; show us.length ≤ i; rw [p.length]; exact hi, fun x hx => ?_⟩
  obtain ⟨hl, v, hv, pv⟩ := p.back hx
  refine ⟨⟨hl, us, v, h1, hv⟩, fun w H2 ⟨e2, hw⟩ => ?_⟩
  subst e2
  have := hw us h1
  rw [hv] at this
  cases this
  exact ⟨G1, Ex.refl G1, R, Rp.mono e _ _ pv⟩
/-- reversed(e), walked -/
def iRevD (re : DE) : DF := fun Xc δ Q => re Xc δ fun x δ1 => match x with
  | .lst xs => Q xs.reverse δ1
  | .sq xs => Q xs.reverse δ1
  | .tup xs => Q xs.reverse δ1
  | _ => False
section
variable {X : Cx} {T : List (Addr × Str)} {W : WX} {e tg : Expr} {re : DE} {p p2 pos pos2 : Pos}
theorem di_rev (hm : X.mg "reversed" = none) (h : PE X e (up X.K T W re)) (hg : Gl X "reversed" := by rfl) (hs : starEach [e] X.env = (false, eval e X.env) :: starEach [] X.env := by rfl) : PI X tg (.Call (.Name "reversed" p) [e] [] pos) (upI X.K T W (iRevD re)) := PIi (pi_revA hg hm h hs) fun σ H R h => by
  obtain ⟨F, G, δ, Xc, Qd, Rl, hr, hx, k⟩ := h
  refine ⟨F, G, δ, Xc, _, Rl, hr, hx, fun G1 H1 v d δ1 e1 R1 p1 q1 => ?_⟩
  cases d with
  | lst xs =>
    obtain ⟨a, us, rfl, h1, h2⟩ := p1
    exact ⟨a, us, rfl, .inl ⟨ex_lt R1.ex h1, k G1 H1 xs.reverse _ δ1 e1 R1 (itok_v (SqL.of h1) h2) q1⟩⟩
  | sq xs =>
    obtain ⟨a, us, rfl, h1, h2⟩ := p1
    exact ⟨a, us, rfl, .inl ⟨ex_l R1.ex h1, k G1 H1 xs.reverse _ δ1 e1 R1 (itok_v h1 h2) q1⟩⟩
  | tup xs =>
    obtain ⟨a, us, rfl, h1, h2⟩ := p1
    exact ⟨a, us, rfl, .inr ⟨ex_t R1.ex h1, k G1 H1 xs.reverse _ δ1 e1 R1 (itok_vt h1 h2) q1⟩⟩
  | _ => exact q1.elim
/-- tuple(reversed(e)), e a list -/
def dTupRev (re : DE) : DE := fun Xc δ Q => re Xc δ fun x δ1 => match x with
  | .lst xs => Q (.tup xs.reverse) δ1
  | .sq xs => Q (.tup xs.reverse) δ1
  | _ => False
theorem dx_tupRev (hc : X.calm = true) (hm : X.mg "tuple" = none) (hm2 : X.mg "reversed" = none) (h : PE X e (up X.K T W re)) (hg : Gl X "tuple" := by rfl) (hg2 : Gl X "reversed" := by rfl)
    (hs : starEach [e] X.env = (false, eval e X.env) :: starEach [] X.env := by rfl)
    (hs2 : starEach [.Call (.Name "reversed" p2) [e] [] pos2] X.env = (false, eval (.Call (.Name "reversed" p2) [e] [] pos2) X.env) :: starEach [] X.env := by rfl) :
    PE X (.Call (.Name "tuple" p) [.Call (.Name "reversed" p2) [e] [] pos2] [] pos) (up X.K T W (dTupRev re)) := PEi (pe_tupRev hc hg hm hg2 hm2 h hs hs2) fun σ H Q h => by
  obtain ⟨F, G, δ, Xc, Qd, R, hr, hx, k⟩ := h
  refine ⟨F, G, δ, Xc, _, R, hr, hx, fun G1 H1 v d δ1 e1 R1 p1 q1 => ?_⟩
  cases d with
  | lst xs =>
    obtain ⟨b, us, rfl, z1, z2⟩ := p1
    refine ⟨b, us, rfl, ex_lt R1.ex z1, fun c hp => ?_⟩
    have e2 : Ex G1 (upd G1 c (.tup us.reverse)) := Ex.new (R1.ex.back hp)
    exact k _ _ (.ref c) (.tup xs.reverse) δ1 (e1.trans e2) (R1.alloc hp) ⟨c, us.reverse, rfl, .inl (.inl upd_same), RpL.mono e2 _ _ (RpL.rev z2)⟩ q1
  | sq xs =>
    obtain ⟨b, us, rfl, z1, z2⟩ := p1
    refine ⟨b, us, rfl, ex_l R1.ex z1, fun c hp => ?_⟩
    have e2 : Ex G1 (upd G1 c (.tup us.reverse)) := Ex.new (R1.ex.back hp)
    exact k _ _ (.ref c) (.tup xs.reverse) δ1 (e1.trans e2) (R1.alloc hp) ⟨c, us.reverse, rfl, .inl (.inl upd_same), RpL.mono e2 _ _ (RpL.rev z2)⟩ q1
  | _ => exact q1.elim
end
end DL


set_option Elab.async false
set_option linter.all false
set_option maxRecDepth 100000
set_option autoImplicit true
namespace DL
open PySem PySem.Spec PyProof.Rows L2
/-! ### list(range(..)) -/
theorem rgV_D {K : PySem.W.Frag} {G : Hp} (a b : Int) : RpL K G (rngD a (b - a).toNat) (rgV a b) := by
  unfold rngD rgV
  generalize List.range (b - a).toNat = l
  induction l with
  | nil => exact rfl
  | cons i l ih => exact ⟨_, _, rfl, rfl, ih⟩
def fRng1 (ra : DE) : DF := fun Xc δ Q => ra Xc δ fun x δ1 => match x with
  | .int n => RgOk 0 n ∧ Q (rngD 0 (n - 0).toNat) δ1
  | _ => False
def fRng2 (ra rb : DE) : DF := fun Xc δ Q => ra Xc δ fun x δ1 => rb Xc δ1 fun y δ2 => match x, y with
  | .int m, .int n => RgOk m n ∧ Q (rngD m (n - m).toNat) δ2
  | _, _ => False
section
variable {X : Cx} {T : List (Addr × Str)} {W : WX} {a b : Expr} {ra rb : DE} {p p2 pos pos2 : Pos}
theorem df_rng1 (hc : X.calm = true) (hl : X.mg "list" = none) (hm : X.mg "range" = none) (ha : PE X a (up X.K T W ra)) (hg : Gl X "list" := by rfl) (hg2 : Gl X "range" := by rfl) (na : starEach [a] X.env = (false, eval a X.env) :: starEach [] X.env := by rfl)
    (nb : starEach [.Call (.Name "range" p2) [a] [] pos2] X.env = (false, eval (.Call (.Name "range" p2) [a] [] pos2) X.env) :: starEach [] X.env := by rfl) :
    PE X (.Call (.Name "list" p) [.Call (.Name "range" p2) [a] [] pos2] [] pos) (upF X.K T W (fRng1 ra)) := PEi (pe_listRg hc hg hl (prg_1 hg2 hm ha na) nb) fun σ H Q h => by
  obtain ⟨F, G, δ, Xc, Qd, R, hr, hx, k⟩ := h
  refine ⟨F, G, δ, Xc, _, R, hr, hx, fun G1 H1 v d δ1 e1 R1 p1 q1 => ?_⟩
  cases d with
  | int n =>
    obtain rfl := p1
    exact ⟨n, rfl, q1.1, newF (us := rgV 0 n) (ds := rngD 0 (n - 0).toNat) e1 R1 (rgV_D 0 n) q1.2 k⟩
  | _ => exact q1.elim
theorem df_rng2 (hc : X.calm = true) (hl : X.mg "list" = none) (hm : X.mg "range" = none) (ha : PE X a (up X.K T W ra)) (hb : PE X b (up X.K T W rb)) (hg : Gl X "list" := by rfl) (hg2 : Gl X "range" := by rfl) (na : starEach [a, b] X.env = (false, eval a X.env) :: starEach [b] X.env := by rfl)
    (nb : starEach [b] X.env = (false, eval b X.env) :: starEach [] X.env := by rfl) (hp : (backTo pos2 (starEach [b] X.env)).any (·.1) = false := by rfl)
    (nc : starEach [.Call (.Name "range" p2) [a, b] [] pos2] X.env = (false, eval (.Call (.Name "range" p2) [a, b] [] pos2) X.env) :: starEach [] X.env := by rfl) :
    PE X (.Call (.Name "list" p) [.Call (.Name "range" p2) [a, b] [] pos2] [] pos) (upF X.K T W (fRng2 ra rb)) := PEi (pe_listRg hc hg hl (prg_2 hg2 hm ha hb na nb hp) nc) fun σ H Q h => by
  obtain ⟨F, G, δ, Xc, Qd, R, hr, hx, k⟩ := h
  refine ⟨F, G, δ, Xc, _, R, hr, hx, fun G1 H1 v d δ1 e1 R1 p1 q1 => ⟨F, G1, δ1, Xc, _, R1, q1, fun G' H' δ' C e R' q => hx G' H' δ' C (e1.trans e) R' q, fun G2 H2 w y δ2 e2 R2 p2 q2 => ?_⟩⟩
  cases d with
  | int m =>
    cases y with
    | int n =>
      obtain rfl := p1
      obtain rfl := p2
      exact ⟨m, n, rfl, rfl, q2.1, newF (us := rgV m n) (ds := rngD m (n - m).toNat) (e1.trans e2) R2 (rgV_D m n) q2.2 k⟩
    | _ => exact q2.elim
  | _ => cases y <;> exact q2.elim
end
end DL


set_option Elab.async false
set_option linter.all false
set_option maxRecDepth 100000
set_option autoImplicit true
namespace DL
open PySem PySem.Spec PyProof.Rows L2
/-! ### enumerate, zip -/
def enumD (xs : List D) : List D := xs.mapIdx fun i x => .tup [.int (i : Nat), x]
def zipD (xs ys : List D) : List D := List.zipWith (fun x y => .tup [x, y]) xs ys
theorem pairG {K : PySem.W.Frag} {T : List (Addr × Str)} {F : Fm} {G1 H1 : Hp} {σ : L2.St} {δ : Ev} {p : Addr} {d e : D} {v w : V} (R : Rel K T F G1 H1 σ δ) (hp : H1 p = none) (h1 : Rp K G1 d v) (h2 : Rp K G1 e w) :
    ∃ G2, Ex G1 G2 ∧ Rel K T F G2 (upd H1 p (.tup [v, w])) σ δ ∧ Rp K G2 (.tup [d, e]) (.ref p) := by
  have e2 : Ex G1 (upd G1 p (.tup [v, w])) := Ex.new (R.ex.back hp)
  exact ⟨_, e2, R.alloc hp, p, [v, w], rfl, .inl (.inl upd_same), v, [w], rfl, Rp.mono e2 _ _ h1, w, [], rfl, Rp.mono e2 _ _ h2, rfl⟩
theorem itok_e {K : PySem.W.Frag} {T : List (Addr × Str)} {G : Hp} {a : Addr} {xs : List D} {us : List V} (h : SqL K G a us) (p : RpL K G xs us) : ItOk K T G (Ite K a) (enumD xs) := fun F G1 H1 σ1 δ1 i e R => by
  have h1 : SqL K H1 a us := ex_l (e.trans R.ex) h
  refine ⟨fun hi => ⟨us, h1, by rw [p.length]; rwa [enumD, List.length_mapIdx] at hi⟩, fun x hx => ?_⟩
  rw [enumD, List.getElem?_mapIdx] at hx
  cases q : xs[i]? with
  | none => rw [q] at hx; cases hx
  | some d =>
    rw [q] at hx
    obtain rfl := (Option.some.inj hx).symm
    obtain ⟨v, hv, pv⟩ := p.get q
    refine ⟨⟨us, v, h1, hv⟩, fun w H2 ⟨c, y, ew, hc, eh, hw⟩ => ?_⟩
    subst ew eh
    have := hw us h1
    rw [hv] at this
    cases this
    exact pairG R hc rfl (Rp.mono e _ _ pv)
theorem itok_z {K : PySem.W.Frag} {T : List (Addr × Str)} {G : Hp} {a b : Addr} {xs ys : List D} {us ws : List V} (h : SqL K G a us) (h' : SqL K G b ws) (p : RpL K G xs us) (p' : RpL K G ys ws) : ItOk K T G (Itz K a b) (zipD xs ys) := fun F G1 H1 σ1 δ1 i e R => by
  have h1 : SqL K H1 a us := ex_l (e.trans R.ex) h
  have h2 : SqL K H1 b ws := ex_l (e.trans R.ex) h'
  refine ⟨fun hi => ⟨us, ws, h1, h2, by rw [zipD, List.length_zipWith] at hi; rw [p.length, p'.length]; omega⟩, fun x hx => ?_⟩
  rw [zipD, List.getElem?_zipWith] at hx
  cases q : xs[i]? with
  | none => rw [q] at hx; cases hx
  | some d =>
    cases q' : ys[i]? with
    | none => rw [q, q'] at hx; cases hx
    | some d' =>
      rw [q, q'] at hx
      obtain rfl := (Option.some.inj hx).symm
      obtain ⟨v, hv, pv⟩ := p.get q
      obtain ⟨v', hv', pv'⟩ := p'.get q'
      refine ⟨⟨us, ws, v, v', h1, h2, hv, hv'⟩, fun w H2 ⟨c, y, y', ew, hc, eh, hw, hw'⟩ => ?_⟩
      subst ew eh
      have z1 := hw us h1
      have z2 := hw' ws h2
      rw [hv] at z1
      rw [hv'] at z2
      cases z1
      cases z2
      exact pairG R hc (Rp.mono e _ _ pv) (Rp.mono e _ _ pv')
theorem itok_zt {K : PySem.W.Frag} {T : List (Addr × Str)} {G : Hp} {a b : Addr} {xs ys : List D} {us ws : List V} (h : SqT K G a us) (h' : SqT K G b ws) (p : RpL K G xs us) (p' : RpL K G ys ws) : ItOk K T G (RZ.ItzT K a b) (zipD xs ys) := fun F G1 H1 σ1 δ1 i e R => by
  have h1 : SqT K H1 a us := ex_t (e.trans R.ex) h
  have h2 : SqT K H1 b ws := ex_t (e.trans R.ex) h'
  refine ⟨fun hi => ⟨us, ws, h1, h2, by rw [zipD, List.length_zipWith] at hi; rw [p.length, p'.length]; omega⟩, fun x hx => ?_⟩
  rw [zipD, List.getElem?_zipWith] at hx
  cases q : xs[i]? with
  | none => rw [q] at hx; cases hx
  | some d =>
    cases q' : ys[i]? with
    | none => rw [q, q'] at hx; cases hx
    | some d' =>
      rw [q, q'] at hx
      obtain rfl := (Option.some.inj hx).symm
      obtain ⟨v, hv, pv⟩ := p.get q
      obtain ⟨v', hv', pv'⟩ := p'.get q'
      refine ⟨⟨us, ws, v, v', h1, h2, hv, hv'⟩, fun w H2 ⟨c, y, y', ew, hc, eh, hw, hw'⟩ => ?_⟩
      subst ew eh
      have z1 := hw us h1
      have z2 := hw' ws h2
      rw [hv] at z1
      rw [hv'] at z2
      cases z1
      cases z2
      exact pairG R hc (Rp.mono e _ _ pv) (Rp.mono e _ _ pv')
def iEnumD (s : DF) : DF := fun Xc δ Q => s Xc δ fun xs δ' => match xs with
  | [.lst ys] => Q (enumD ys) δ'
  | [.sq ys] => Q (enumD ys) δ'
  | _ => False
/-- two lists or two tuples -/
def iZipD (s : DF) : DF := fun Xc δ Q => s Xc δ fun xs δ' => match xs with
  | [.lst ys, .lst zs] => Q (zipD ys zs) δ'
  | [.lst ys, .sq zs] => Q (zipD ys zs) δ'
  | [.sq ys, .lst zs] => Q (zipD ys zs) δ'
  | [.sq ys, .sq zs] => Q (zipD ys zs) δ'
  | [.tup ys, .tup zs] => Q (zipD ys zs) δ'
  | _ => False
section
variable {X : Cx} {T : List (Addr × Str)} {W : WX} {e e2 : Expr} {s : DF} {elts : List Expr} {kk : Nat} {tpos p pos : Pos}
theorem di_enum (hm : X.mg "enumerate" = none) (ha : PA X [e] (upA X.K T W s)) (hg : Gl X "enumerate" := by rfl) (hs : starEach [e] X.env = [(false, eval e X.env)] := by rfl) :
    PI X (.Tuple elts kk tpos) (.Call (.Name "enumerate" p) [e] [] pos) (upI X.K T W (iEnumD s)) := PIi (pi_enum hg hm ha hs) fun σ H R h => by
  obtain ⟨F, G, δ, Xc, Qd, Rl, hr, hx, k⟩ := h
  refine ⟨F, G, δ, Xc, _, Rl, hr, hx, fun G1 H1 vs ds δ1 e1 R1 p1 q1 => ?_⟩
  split at q1
  · obtain ⟨v, rfl, a, us, rfl, h1, h2⟩ := one_of p1
    exact ⟨a, us, rfl, ex_lt R1.ex h1, k G1 H1 _ _ δ1 e1 R1 (itok_e (SqL.of h1) h2) q1⟩
  · obtain ⟨v, rfl, a, us, rfl, h1, h2⟩ := one_of p1
    exact ⟨a, us, rfl, ex_l R1.ex h1, k G1 H1 _ _ δ1 e1 R1 (itok_e h1 h2) q1⟩
  · exact q1.elim
theorem di_zip (hm : X.mg "zip" = none) (ha : PA X [e, e2] (upA X.K T W s)) (hg : Gl X "zip" := by rfl) (hs : starEach [e, e2] X.env = (false, eval e X.env) :: starEach [e2] X.env := by rfl) (hpl : (backTo pos (starEach [e2] X.env)).any (·.1) = false := by rfl) :
    PI X (.Tuple elts kk tpos) (.Call (.Name "zip" p) [e, e2] [] pos) (upI X.K T W (iZipD s)) := PIi (RZ.pi_zipA hg hm ha hs hpl) fun σ H R h => by
  obtain ⟨F, G, δ, Xc, Qd, Rl, hr, hx, k⟩ := h
  refine ⟨F, G, δ, Xc, _, Rl, hr, hx, fun G1 H1 vs ds δ1 e1 R1 p1 q1 => ?_⟩
  split at q1
  · obtain ⟨v, w, rfl, ⟨a, us, rfl, h1, h2⟩, b, ws, rfl, h3, h4⟩ := two_of p1
    exact ⟨a, b, us, ws, rfl, .inl ⟨ex_lt R1.ex h1, ex_lt R1.ex h3, k G1 H1 _ _ δ1 e1 R1 (itok_z (SqL.of h1) (SqL.of h3) h2 h4) q1⟩⟩
  · obtain ⟨v, w, rfl, ⟨a, us, rfl, h1, h2⟩, b, ws, rfl, h3, h4⟩ := two_of p1
    exact ⟨a, b, us, ws, rfl, .inl ⟨ex_lt R1.ex h1, ex_l R1.ex h3, k G1 H1 _ _ δ1 e1 R1 (itok_z (SqL.of h1) h3 h2 h4) q1⟩⟩
  · obtain ⟨v, w, rfl, ⟨a, us, rfl, h1, h2⟩, b, ws, rfl, h3, h4⟩ := two_of p1
    exact ⟨a, b, us, ws, rfl, .inl ⟨ex_l R1.ex h1, ex_lt R1.ex h3, k G1 H1 _ _ δ1 e1 R1 (itok_z h1 (SqL.of h3) h2 h4) q1⟩⟩
  · obtain ⟨v, w, rfl, ⟨a, us, rfl, h1, h2⟩, b, ws, rfl, h3, h4⟩ := two_of p1
    exact ⟨a, b, us, ws, rfl, .inl ⟨ex_l R1.ex h1, ex_l R1.ex h3, k G1 H1 _ _ δ1 e1 R1 (itok_z h1 h3 h2 h4) q1⟩⟩
  · obtain ⟨v, w, rfl, ⟨a, us, rfl, h1, h2⟩, b, ws, rfl, h3, h4⟩ := two_of p1
    exact ⟨a, b, us, ws, rfl, .inr ⟨ex_t R1.ex h1, ex_t R1.ex h3, k G1 H1 _ _ δ1 e1 R1 (itok_zt h1 h3 h2 h4) q1⟩⟩
  · exact q1.elim
end
end DL


set_option Elab.async false
set_option linter.all false
set_option maxRecDepth 100000
set_option autoImplicit true
namespace DL
open PySem PySem.Spec PyProof.Rows L2
/-! ### x, y = a, b where one or both are lists that change -/
def sParDF (i j : Nat) (ra : DE) (rb : DF) : DS := fun Dd δ => ra Dd.xe δ fun x δ1 => rb Dd.xe δ1 fun ys δ2 => ∀ p, p ∉ owns δ2 → Dd.nx ((δ2.set i (.d x)).set j (.o p ys))
theorem owns_out_d {δ : Ev} {p : Addr} {x : D} (i : Nat) (h : p ∉ owns δ) : p ∉ owns (δ.set i (.d x)) := fun z => h ((owns_set_none rfl δ i).subset z)
theorem ds_parDF {X : Cx} {T : List (Addr × Str)} {W : WX} {ra : DE} {rb : DF} {pos : Pos} {i j : Nat} {x y : Str} {a b : Expr} {px py pt : Pos} {kt k2 pt2} (hc : X.calm = true) (hN : X.N.Nodup) (hi : X.N[i]? = some x) (hj : X.N[j]? = some y) (hij : i ≠ j)
    (hx : X.env.scope.names.lookup x = some .local) (hy : X.env.scope.names.lookup y = some .local) (ha : PE X a (up X.K T W ra)) (hb : PE X b (upF X.K T W rb)) (hw : swappedStores [.Tuple [.Name x px, .Name y py] kt pt] (.Tuple [a, b] k2 pt2) X.env = pure (some [x, y]) := by rfl)
    (hs : swapsWithSole [.Tuple [.Name x px, .Name y py] kt pt] (.Tuple [a, b] k2 pt2) pos.line X.env = pure false := by rfl)
    (h1 : starEach [a, b] X.env = (false, eval a X.env) :: starEach [b] X.env := by rfl) (h2 : starEach [b] X.env = (false, eval b X.env) :: starEach [] X.env := by rfl) :
    PS X (.Assign [.Tuple [.Name x px, .Name y py] kt pt] (.Tuple [a, b] k2 pt2) pos) (upS X.K T W (sParDF i j ra rb)) := PSi (ps_par hc hN hi hj hij hx hy (pa_cons ha (pa_cons hb pa_nil h2) h1) hw hs) fun Dn σ H h => by
  obtain ⟨F, G, δ, Dd, R, hr, k⟩ := h
  refine ⟨F, G, δ, Dd.xe, _, R, hr, k.x, fun G1 H1 v d δ1 e1 R1 p1 q1 => ⟨F, G1, δ1, Dd.xe, _, R1, q1, (k.mono e1).x, fun G2 H2 p us ys δ2 e2 R2 a1 a2 a3 a4 a5 q2 => ⟨v, .ref p, rfl, ?_⟩⟩⟩
  exact k.nx G2 H2 _ _ (e1.trans e2) ((R2.setd (Rp.mono e2 _ _ p1)).seto a2 a1 a3 (owns_out_d i a5) (.inr a4)) (q2 p a5)
end DL


set_option Elab.async false
set_option linter.all false
set_option maxRecDepth 100000
set_option autoImplicit true
namespace DL
open PySem PySem.Spec PyProof.Rows L2 RT
/-! ### {} as data -/
def dDic0 : DE := fun _ δ Q => Q (.dic [] []) δ
theorem dx_dic0 {X : Cx} {T : List (Addr × Str)} {W : WX} {pos : Pos} : PE X (.Dict [] [] pos) (up X.K T W dDic0) := PEi pe_dnewK fun σ H Q h => by
  obtain ⟨F, G, δ, Xc, Qd, R, hr, hx, k⟩ := h
  exact fun p hp => k _ _ (.ref p) (.dic [] []) δ (Ex.new (R.ex.back hp)) (R.alloc hp) ⟨p, _, [], rfl, upd_same, ⟨[], rfl, rfl, rfl⟩, rfl⟩ hr

/-! ### isinstance of a written tuple of built-in classes -/
theorem kitAny_ty {K : PySem.W.Frag} {t : String} (ht : t ∈ kinds) : ∀ L : List String, (∀ Y ∈ L, Y ∈ kinds) → PySem.W.kitAny K (.type t) (L.map Value.type) = some (L.any fun Y => t == Y || (Y == "int" && t == "bool"))
  | [], _ => rfl
  | Y :: L, h => by
    have e := kit_ty (K := K) (kit_kinds t ht Y (h Y List.mem_cons_self))
    have ih := kitAny_ty (K := K) ht L fun Z hz => h Z (List.mem_cons_of_mem _ hz)
    refine kitAny_cons e (fun hb => ?_) (fun hb => ?_)
    · rw [List.any_cons, hb, Bool.false_or]; exact ih
    · rw [List.any_cons, hb, Bool.true_or]
theorem pair_ty : ∀ L : List String, Paired ClsV (L.map V.ty) (L.map Value.type)
  | [] => .nil
  | Y :: L => .cons (.ty Y) (pair_ty L)
/-- names of built-in classes, in order -/
def tTys (L : List String) : TA := fun σ H Q => Q (L.map V.ty) H
section
variable {X : Cx} {T : List (Addr × Str)} {W : WX} {e : Expr} {re : DE} {pos : Pos}
theorem pt_nil : PA X [] (tTys []) := PAi pa_nil fun σ H Q h => h
theorem pt_cons {x : Str} {Y : String} {L : List String} {es : List Expr} {px : Pos} (hm : X.mg x = none) (hv : bootBuiltins x = some (.type Y)) (hr : PA X es (tTys L)) (hg : Gl X x := by rfl) (hn : x ≠ "__name__" := by decide) (hd : (x == ("__debug__" : Str)) = false := by decide)
    (hs : starEach (.Name x px :: es) X.env = (false, eval (.Name x px) X.env) :: starEach es X.env := by rfl) : PA X (.Name x px :: es) (tTys (Y :: L)) :=
  PAi (pa_cons (te := tC (.ty Y)) (pe_bltn (v := .ty Y) hg hm hv rfl hn hd) hr hs) fun σ H Q h => h
def dIsT (L : List String) (re : DE) : DE := fun Xc δ Q => re Xc δ fun x δ1 => noq x = true ∧ Q (.bl (L.any fun Y => isB Y x)) δ1
theorem dx_isT {L : List String} {es : List Expr} {kk : Nat} {p pt : Pos} (hL : ∀ Y ∈ L, Y ∈ kinds) (hm : X.mg "isinstance" = none) (h : PE X e (up X.K T W re)) (ht : PA X es (tTys L)) (hg : Gl X "isinstance" := by rfl)
    (hs1 : starEach [e, .Tuple es kk pt] X.env = (false, eval e X.env) :: starEach [.Tuple es kk pt] X.env := by rfl) (hs2 : starEach [.Tuple es kk pt] X.env = (false, eval (.Tuple es kk pt) X.env) :: starEach [] X.env := by rfl)
    (hpl : (backTo pos (starEach [.Tuple es kk pt] X.env)).any (·.1) = false := by rfl) (hlen : L.length ≤ sizeLine := by rw [sizeLine_eq]; decide) :
    PE X (.Call (.Name "isinstance" p) [e, .Tuple es kk pt] [] pos) (up X.K T W (dIsT L re)) := PEi (pe_callB call_isiT hg hm b_isinstance (pa_cons h (pa_cons (pe_tup ht) pa_nil hs2) hs1) (he := hs1) (hpl := hpl)) fun σ H Q h => by
  obtain ⟨F, G, δ, Xc, Qd, R, hr, hx, k⟩ := h
  refine ⟨F, G, δ, Xc, _, R, hr, hx, fun G1 H1 v d δ1 e1 R1 p1 q1 => ⟨by rw [List.length_map]; exact hlen, fun p hp => ?_⟩⟩
  obtain ⟨q0, q1⟩ := q1
  have ho : ∀ w, d ≠ .opq w := fun w z => by subst z; exact absurd (show false = true from q0) (by decide)
  have e2 : Ex G1 (upd G1 p (.tup (L.map V.ty))) := Ex.new (R1.ex.back hp)
  have tk : tyN d ∈ kinds := by cases d <;> first | exact absurd rfl (ho _) | simp [tyN, kinds]
  refine ⟨v, p, L.map V.ty, .type (tyN d), L.map Value.type, L.any fun Y => isB Y d, rfl, upd_same, pair_ty L, dt_of (R1.ex.trans (Ex.new hp)) p1 ho, kitAny_ty tk L hL, ?_⟩
  exact k _ _ _ (.bl _) δ1 (e1.trans e2) (R1.alloc hp) rfl q1
end
/-! ### a promise of nothing -/
theorem fn_false {P : Program} {w : World} {K : PySem.W.Frag} {T : List (Addr × Str)} {mg : Str → Option Value} {base : Heap} {k n : Nat} {f : Addr} {fd : FuncData} {ps : List Str} {S : FS} (h : ∀ ds Qd Ed, ¬ S ds Qd Ed) : FnOk P w K mg base (L2.CX P w) k f fd ps (spA K T n S) :=
  ⟨fun vs H Q E ⟨_, _, _, _, _, _, _, _, z, _⟩ => absurd z (h _ _ _), fun A outer s H args us vs Q E _ _ _ _ ⟨_, _, _, _, _, _, _, _, z, _⟩ => absurd z (h _ _ _)⟩
theorem fn_falseB {P : Program} {w : World} {K : PySem.W.Frag} {T : List (Addr × Str)} {mg : Str → Option Value} {base : Heap} {k n : Nat} {f : Addr} {fd : FuncData} {ps : List Str} {S : FSB} (h : ∀ xs ds Qd Ed, ¬ S xs ds Qd Ed) : FnOk P w K mg base (L2.CX P w) k f fd ps (spB K T n S) :=
  ⟨fun vs H Q E ⟨_, _, _, _, _, _, _, _, _, _, _, _, _, _, _, _, z, _⟩ => absurd z (h _ _ _ _), fun A outer s H args us vs Q E _ _ _ _ ⟨_, _, _, _, _, _, _, _, _, _, _, _, _, _, _, _, z, _⟩ => absurd z (h _ _ _ _)⟩
end DL


set_option Elab.async false
set_option linter.all false
set_option maxRecDepth 100000
set_option autoImplicit true
namespace DL
open PySem PySem.Spec PyProof.Rows L2 RT
/-! ### list(reversed(e)), e a list -/
section
variable {prog : Program} {w : World} {A : Around} {s : Shared} {R : Result → Shared → Prop}
theorem ext_rev {it l S : Addr} {xs : Array Value} {res : Value} {c₀ : Nat} (hh : A.handled = none) (ki : s.heap.IsRevIter it l ((xs.size : Int) - 1)) (kl : s.heap.IsList l xs) (ne : l ≠ it) (nb : xs.size ≤ sizeLine) (si : S ≠ it) (sl : S ≠ l)
    (hS : s.heap.get? S = some { cls := .type "list", data := .seq #[] c₀ })
    (k : ∀ (h' : Heap) (tk : Nat) (acc : Array Value) (c' : Nat), (∀ b o, b ≠ S → b ≠ it → s.heap.get? b = some o → h'.get? b = some o) → h'.get? S = some { cls := .type "list", dict := none, data := .seq acc c', slots := #[] } →
      ItemsOf (fun i v => xs[xs.size - 1 - i]? = some v) acc xs.size → R (.ok (.ret res)) { s with heap := h', toks := tk }) :
    wpAny (model prog w) A.in1 (Builtin.List.listExtendWith (.ref S) (.ref it) res) (fun fin s' => match fin with | .done f => R (.ok f) s' | .again c' => c'.quiet = true ∧ codeAny (model prog w) A c' R s') (fun e s' => R (.error e) s') s := by
  have V := (Walks.listRev (prog := prog) (w := w) (A := A.in1) hh it l ne xs).toS
  have sf : S ∉ [it, l] := fun z => by
    rcases List.mem_cons.mp z with z | z
    · exact si z
    · exact sl (List.mem_singleton.mp z)
  have ty : s.TypeIs (.ref it) "list_reverseiterator" := ki.typeIs
  unfold Builtin.List.listExtendWith
  refine wpAny_bind (wpAny_typeOf ty ?_)
  rw [if_neg (by simp [Builtin.List.listSameRef, si])]
  refine wpAny_bind (wpAny_pyIter_revIter ki ?_)
  refine wpAny_bind (wpAny_holding ?_)
  unfold Builtin.List.listLengthHint
  refine wpAny_bind (wpAny_specialOf ty nolen_lri ?_)
  show wpAny _ A.in1 (specialOf (Value.ref it) (Str.ofString "__length_hint__") >>= _) _ _ _
  refine wpAny_bind (wpAny_specialOf ty hint_lri ?_)
  generalize hq : ("list_reverseiterator.__length_hint__" : String) = q0
  wp_delta
  rw [show splitId q0 = some ("list_reverseiterator", "__length_hint__") from by subst hq; decide +kernel]
  subst hq
  refine wpAny_bind (wpAny_isInstance (b := true) ty (by rw [isSubtype_type]; kernel_rfl) ?_)
  refine wpAny_pure ?_
  rw [if_neg (by decide)]
  have e0 : ((xs.size : Nat) : Int) - 1 - ((0 : Nat) : Int) = (xs.size : Int) - 1 := by omega
  refine wpAny_pure ⟨plainId_quiet F.plain_extend_loop _, codeAny_extend_loopS V nb _ sf _ xs.size 0 _ _ _ rfl (Nat.zero_le _) ⟨Nat.zero_le _, by rw [e0]; exact ki, kl⟩ hS (ItemsOf.nil _) fun s' acc c' hm g1 g2 => ?_⟩
  rw [Moved.eq_with hm]
  exact k s'.heap s'.toks acc c' (fun b o b1 b2 e => hm.heap b o (fun z => by
    rcases List.mem_cons.mp z with z | z
    · exact b1 z
    · exact b2 (List.mem_singleton.mp z)) e) g1 g2
theorem init_rev {it l S : Addr} {xs : Array Value} (hh : A.handled = none) (ki : s.heap.IsRevIter it l ((xs.size : Int) - 1)) (kl : s.heap.IsList l xs) (ne : l ≠ it) (nb : xs.size ≤ sizeLine) (si : S ≠ it) (sl : S ≠ l)
    (hS : s.heap.get? S = some { cls := .type "list", data := .seq #[] })
    (k : ∀ (h' : Heap) (tk : Nat) (acc : Array Value) (c' : Nat), (∀ b o, b ≠ S → b ≠ it → s.heap.get? b = some o → h'.get? b = some o) → h'.get? S = some { cls := .type "list", dict := none, data := .seq acc c', slots := #[] } →
      ItemsOf (fun i v => xs[xs.size - 1 - i]? = some v) acc xs.size → R (.ok (.ret .none)) { s with heap := h', toks := tk }) :
    wpAny (model prog w) A.in1 (Builtin.«list.__init__» ⟨[.ref S, .ref it], []⟩) (fun fin s' => match fin with | .done f => R (.ok f) s' | .again c' => c'.quiet = true ∧ codeAny (model prog w) A c' R s') (fun e s' => R (.error e) s') s := by
  show wpAny _ _ (do let old ← Builtin.List.listItems (.ref S); Builtin.List.listUpdate (.ref S) (fun _ => #[]); letGo old.toList.reverse; Builtin.List.listExtendWith (.ref S) (.ref it) .none) _ _ s
  refine wpAny_bind ?_
  unfold Builtin.List.listItems
  refine wpAny_bind (wpAny_seqItems hS rfl (wpAny_pure ?_))
  show wpAny _ _ (updateSeq S (fun _ => #[]) >>= fun _ => letGo (#[] : Array Value).toList.reverse >>= fun _ => Builtin.List.listExtendWith (.ref S) (.ref it) .none) _ _ s
  refine wpAny_bind (wpAny_updateSeq hS rfl ?_)
  have hS2 := Heap.get?_update_self (Obj.mapSeq (fun _ => (#[] : Array Value))) hS rfl
  have oth : ∀ b o, b ≠ S → s.heap.get? b = some o → (s.heap.update S (Obj.mapSeq (fun _ => (#[] : Array Value)))).get? b = some o := fun b o hb e => (Heap.get?_update_other _ _ (Ne.symm hb)).trans e
  refine wpAny_bind (wpAny_letGo ?_)
  refine ext_rev (s := { s with heap := s.heap.update S (Obj.mapSeq (fun _ => (#[] : Array Value))) }) hh (ki.at fun o e => oth it o (Ne.symm si) e) (kl.at fun o e => oth l o (Ne.symm sl) e) ne nb si sl hS2 fun h' tk acc c' m g1 g2 => ?_
  exact k h' tk acc c' (fun b o b1 b2 e => m b o b1 b2 (oth b o b1 e)) g1 g2
end
section
variable {prog : Program} {w : World} {A : Around} {E : Value → Shared → Prop} {s : Shared}
theorem call_lrev {it l : Addr} {xs : Array Value} {Q : Value → Shared → Prop} (hh : A.handled = none) (ki : s.heap.IsRevIter it l ((xs.size : Int) - 1)) (kl : s.heap.IsList l xs) (ne : l ≠ it) (nb : xs.size ≤ sizeLine)
    (k : ∀ (h' : Heap) (tk : Nat) (acc : Array Value) (c' : Nat), (∀ b o, b ≠ it → s.heap.get? b = some o → h'.get? b = some o) → h'.get? s.heap.objs.size = some { cls := .type "list", dict := none, data := .seq acc c', slots := #[] } →
      ItemsOf (fun i v => xs[xs.size - 1 - i]? = some v) acc xs.size → Q (.ref s.heap.objs.size) { s with heap := h', toks := tk }) :
    wpAny (model prog w) A (call (.type "list") [.ref it]) Q E s := by
  refine callType_codes (Q₁ := fun ob t => ob = .ref s.heap.objs.size ∧ t = { s with heap := s.heap.push { cls := .type "list", data := .seq #[] } }) F.called_list (F.typeCall_list_1 _) F.entry_list_init (code_list_new _ ⟨rfl, rfl⟩) fun ob t ht => ?_
  obtain ⟨rfl, rfl⟩ := ht
  obtain ⟨oi, hoi, _⟩ := id ki
  obtain ⟨ol, hol, _⟩ := id kl
  have gS : (s.heap.push { cls := .type "list", data := .seq #[] }).get? s.heap.objs.size = some { cls := .type "list", data := .seq #[] } := Heap.get?_push_size _ rfl
  refine ⟨⟨_, gS, rfl⟩, F.args_list_init_2 _ _, init_rev (A := A.in1) (s := { s with heap := s.heap.push { cls := .type "list", data := .seq #[] } }) hh (ki.at fun o e => Heap.get?_push_of_some _ e) (kl.push _) ne nb (Nat.ne_of_gt (Heap.lt_size hoi)) (Nat.ne_of_gt (Heap.lt_size hol)) gS fun h' tk acc c' m g1 g2 => ?_⟩
  exact ⟨rfl, k h' tk acc c' (fun b o b1 e => m b o (Nat.ne_of_lt (Heap.lt_size e)) b1 (Heap.get?_push_of_some _ e)) g1 g2⟩
end
def tLstRev (K : PySem.W.Frag) (te : TE) : TE := fun σ H Q => te σ H fun v H1 => ∃ (a : Addr) (xs : List V), v = .ref a ∧ SqL K H1 a xs ∧ ∀ q, H1 q = none → Q (.ref q) (upd H1 q (.lst xs.reverse))
section
variable {X : Cx} {T : List (Addr × Str)} {W : WX}
theorem pe_lstRev {e : Expr} {te : TE} {p p2 pos pos2 : Pos} (hc : X.calm = true) (hg : Gl X "list") (hm : X.mg "list" = none) (hg2 : Gl X "reversed") (hm2 : X.mg "reversed" = none) (he : PE X e te) (hs : starEach [e] X.env = (false, eval e X.env) :: starEach [] X.env := by rfl)
    (hs2 : starEach [.Call (.Name "reversed" p2) [e] [] pos2] X.env = (false, eval (.Call (.Name "reversed" p2) [e] [] pos2) X.env) :: starEach [] X.env := by rfl) : PE X (.Call (.Name "list" p) [.Call (.Name "reversed" p2) [e] [] pos2] [] pos) (tLstRev X.K te) := by
  refine ⟨fun pins s σ H Q I h => ?_⟩
  refine Call_ (ld_blt I hg hm boot_list (PyProof.Rows.callWith_type1 (args_cons (Call_ (ld_blt I hg2 hm2 PyProof.Rows.boot_reversed (PyProof.Rows.callWith_type1 (args_cons (thn (he.run pins s σ H _ I h) fun u s1 ⟨v, H1, I1, r1, q1⟩ => args_nil ?_) hs) hs rfl))) hs2) hs2 rfl))
  obtain ⟨a, xs, ev, hq, q⟩ := q1
  subst ev
  obtain rfl : u = Value.ref a := r1
  obtain ⟨its, rv, p', hz⟩ := I1.list hq
  refine call_reversed_list p'.isList (args_nil ?_)
  have k0 : ∀ b o, s1.heap.get? b = some o → (s1.heap.push (revObj a ((its.toArray.size : Int) - 1))).get? b = some o := fun b o z => Heap.get?_push_of_some _ z
  have I2 : Inv X pins σ H1 { s1 with heap := s1.heap.push (revObj a ((its.toArray.size : Int) - 1)) } := I1.kept (t' := s1.toks) k0
  obtain ⟨f0, f1, f2, f3, f4, f5⟩ := I1.fpOk (H' := H1) (b := s1.heap.objs.size) (Nat.le_refl _) (I1.hok.fresh (Nat.le_refl _))
  have kl := p'.isList
  obtain ⟨ol, hol, _⟩ := id kl
  have ne : a ≠ s1.heap.objs.size := Nat.ne_of_lt (Heap.lt_size hol)
  have nb : its.toArray.size ≤ sizeLine := by rw [List.size_toArray, ← rv.length]; exact hz
  refine call_lrev (s := { s1 with heap := s1.heap.push (revObj a ((its.toArray.size : Int) - 1)) }) (I1.ok.hd hc) ⟨_, Heap.get?_push_size _ rfl, rfl, rfl⟩ (kl.push _) ne nb fun h' tk acc c' hk g1 hi => ?_
  have I3 : Inv X pins σ (upd H1 (s1.heap.push (revObj a ((its.toArray.size : Int) - 1))).objs.size (.lst xs.reverse)) { s1 with heap := h', toks := tk } :=
    I2.turnedNew (t' := tk) (ch := [s1.heap.objs.size]) (fun b o hb z => hk b o (fun y => hb (List.mem_singleton.mpr y)) z) (fun b hb => by rw [List.mem_singleton.mp hb]; exact ⟨f0, f1, f2, f3, f4, f5⟩) (Nat.le_refl _)
      (show ObjOk X.prog X.w _ _ _ (.lst xs.reverse) from ⟨by rw [List.length_reverse]; exact hz, acc.toList, c', vals_rev rv hi, by rw [Array.toArray_toList]; exact g1⟩)
  exact ⟨.ref (s1.heap.push (revObj a ((its.toArray.size : Int) - 1))).objs.size, _, I3, rfl, q _ (I2.hok.fresh (Nat.le_refl _))⟩
/-- list(reversed(e)), e a list -/
def fRevL (re : DE) : DF := fun Xc δ Q => re Xc δ fun x δ1 => match x with
  | .lst xs => Q xs.reverse δ1
  | .sq xs => Q xs.reverse δ1
  | _ => False
theorem df_revL {e : Expr} {re : DE} {p p2 pos pos2 : Pos} (hc : X.calm = true) (hm : X.mg "list" = none) (hm2 : X.mg "reversed" = none) (h : PE X e (up X.K T W re)) (hg : Gl X "list" := by rfl) (hg2 : Gl X "reversed" := by rfl)
    (hs : starEach [e] X.env = (false, eval e X.env) :: starEach [] X.env := by rfl)
    (hs2 : starEach [.Call (.Name "reversed" p2) [e] [] pos2] X.env = (false, eval (.Call (.Name "reversed" p2) [e] [] pos2) X.env) :: starEach [] X.env := by rfl) :
    PE X (.Call (.Name "list" p) [.Call (.Name "reversed" p2) [e] [] pos2] [] pos) (upF X.K T W (fRevL re)) := PEi (pe_lstRev hc hg hm hg2 hm2 h hs hs2) fun σ H Q h => by
  obtain ⟨F, G, δ, Xc, Qd, R, hr, hx, k⟩ := h
  refine ⟨F, G, δ, Xc, _, R, hr, hx, fun G1 H1 v d δ1 e1 R1 p1 q1 => ?_⟩
  cases d with
  | lst xs =>
    obtain ⟨b, us, rfl, z1, z2⟩ := p1
    exact ⟨b, us, rfl, ex_lt R1.ex z1, newF (us := us.reverse) (ds := xs.reverse) e1 R1 (RpL.rev z2) q1 k⟩
  | sq xs =>
    obtain ⟨b, us, rfl, z1, z2⟩ := p1
    exact ⟨b, us, rfl, ex_l R1.ex z1, newF (us := us.reverse) (ds := xs.reverse) e1 R1 (RpL.rev z2) q1 k⟩
  | _ => exact q1.elim
end
end DL


set_option Elab.async false
set_option linter.all false
set_option maxRecDepth 100000
set_option autoImplicit true
namespace DL
open PySem PySem.Spec PyProof.Rows L2
/-! ### dicts: keys ints and texts -/
def eqK : D → D → Bool
  | .int i, .int j => decide (i = j)
  | .str a, .str b => decide (a = b)
  | _, _ => false
def keyOk : D → Bool
  | .int _ => true
  | .str _ => true
  | _ => false
/-- what a dict holds at a key -/
def lkD : List D → List D → D → Option D
  | k :: ks, v :: vs, x => if eqK k x then some v else lkD ks vs x
  | _, _, _ => none
def hasK (ks : List D) (x : D) : Bool := ks.any fun k => eqK k x
def putKs (ks : List D) (x : D) : List D := if hasK ks x then ks else ks ++ [x]
def putVs (ks vs : List D) (x w : D) : List D := if hasK ks x then List.zipWith (fun k v => if eqK k x then w else v) ks vs else vs ++ [w]
theorem keyOk_of {x : D} (h : keyOk x = true) : ∃ k : Key, x = keyD k := by
  cases x <;> first | exact absurd (show false = true from h) (by decide) | skip
  · exact ⟨.inl _, rfl⟩
  · exact ⟨.inr _, rfl⟩
theorem eqK_key (a b : Key) : eqK (keyD a) (keyD b) = decide (a = b) := by
  cases a <;> cases b <;> simp [eqK, keyD]
theorem eqK_refl {x : D} (h : keyOk x = true) : eqK x x = true := by
  obtain ⟨k, rfl⟩ := keyOk_of h
  rw [eqK_key]; simp
theorem eqK_eq {x y : D} (h : eqK x y = true) : x = y := by
  cases x <;> cases y <;> simp [eqK] at h <;> simp [h]
theorem eqK_comm (x y : D) : eqK x y = eqK y x := by
  cases x <;> cases y <;> simp [eqK, eq_comm]
theorem lkD_none : ∀ {ks vs : List D} {x : D}, hasK ks x = false → lkD ks vs x = none
  | [], _, _, _ => rfl
  | k :: ks, [], _, _ => rfl
  | k :: ks, v :: vs, x, h => by
    unfold hasK at h
    rw [List.any_cons, Bool.or_eq_false_iff] at h
    unfold lkD
    rw [h.1]
    exact lkD_none (ks := ks) (vs := vs) h.2
theorem lkD_has : ∀ {ks vs : List D} {x : D}, ks.length = vs.length → (lkD ks vs x).isSome = hasK ks x
  | [], _, _, _ => rfl
  | k :: ks, v :: vs, x, h => by
    unfold lkD hasK
    rw [List.any_cons]
    cases q : eqK k x with
    | true => rfl
    | false => rw [Bool.false_or]; exact lkD_has (ks := ks) (vs := vs) (by simpa using h)
theorem lkD_zip (x w y : D) : ∀ {ks vs : List D}, ks.length = vs.length → lkD ks (List.zipWith (fun k v => if eqK k x then w else v) ks vs) y = (lkD ks vs y).map fun v => if eqK x y then w else v
  | [], [], _ => rfl
  | k :: ks, v :: vs, h => by
    rw [List.zipWith_cons_cons]
    unfold lkD
    have ih := lkD_zip x w y (ks := ks) (vs := vs) (by simpa using h)
    cases q : eqK k y with
    | true =>
      have e : k = y := eqK_eq q
      subst e
      rw [if_pos rfl, if_pos rfl, eqK_comm k x, Option.map_some]
    | false => rw [if_neg (by simp), if_neg (by simp), ih]
theorem lkD_snoc (x w y : D) : ∀ {ks vs : List D}, ks.length = vs.length → hasK ks x = false → lkD (ks ++ [x]) (vs ++ [w]) y = if eqK x y then some w else lkD ks vs y
  | [], [], _, _ => by show (if eqK x y then some w else none) = _; rfl
  | k :: ks, v :: vs, h, hn => by
    unfold hasK at hn
    rw [List.any_cons, Bool.or_eq_false_iff] at hn
    have ih := lkD_snoc x w y (ks := ks) (vs := vs) (by simpa using h) hn.2
    rw [List.cons_append, List.cons_append]
    unfold lkD
    rw [ih]
    cases q : eqK k y with
    | true =>
      have e : k = y := eqK_eq q
      subst e
      rw [if_pos rfl, if_pos rfl, if_neg (by rw [eqK_comm, hn.1]; decide)]
    | false => simp
theorem lkD_put {ks vs : List D} {x w y : D} (h : ks.length = vs.length) : lkD (putKs ks x) (putVs ks vs x w) y = if eqK x y then some w else lkD ks vs y := by
  unfold putKs putVs
  cases q : hasK ks x with
  | true =>
    rw [if_pos rfl, if_pos rfl, lkD_zip x w y h]
    cases r : eqK x y with
    | true =>
      have e : x = y := eqK_eq r
      subst e
      have := lkD_has (x := x) h
      rw [q] at this
      cases z : lkD ks vs x with
      | none => rw [z] at this; cases this
      | some v => rfl
    | false =>
      rw [if_neg (by simp)]
      cases lkD ks vs y <;> rfl
  | false => rw [if_neg (by simp), if_neg (by simp), lkD_snoc x w y h q]
theorem put_len {ks vs : List D} {x w : D} (h : ks.length = vs.length) : (putKs ks x).length = (putVs ks vs x w).length := by
  unfold putKs putVs
  split
  · rw [List.length_zipWith]; omega
  · simp [h]
theorem putKs_le (ks : List D) (x : D) : (putKs ks x).length ≤ ks.length + 1 := by
  unfold putKs; split
  · omega
  · simp
section
variable {K : PySem.W.Frag} {G : Hp}
theorem HDic.len {o : HO} {ks : List D} {us : List V} (h : HDic o ks us) : us.length = ks.length := by
  obtain ⟨kvs, _, rfl, rfl⟩ := h
  simp
theorem lk_val : ∀ {kvs : List (Key × V)} {vs : List D} {k : Key}, RpL K G vs (kvs.map (·.2)) →
    (∀ d, lkD (kvs.map fun p => keyD p.1) vs (keyD k) = some d → ∃ v, valV kvs k = some v ∧ Rp K G d v) ∧ (lkD (kvs.map fun p => keyD p.1) vs (keyD k) = none → valV kvs k = none)
  | [], _, _, _ => ⟨fun d h => by simp [lkD] at h, fun _ => rfl⟩
  | p :: kvs, vs, k, h => by
    match vs, h with
    | [], h => simp [RpL] at h
    | d :: ds, h =>
      obtain ⟨x, r, e, h1, h2⟩ := h
      rw [List.map_cons] at e
      cases e
      obtain ⟨i1, i2⟩ := lk_val (k := k) h2
      rw [List.map_cons]
      unfold lkD
      rw [eqK_key]
      by_cases q : p.1 = k
      · rw [decide_eq_true q, if_pos rfl]
        exact ⟨fun d' e => by cases e; exact ⟨_, valV_pos q, h1⟩, fun z => nomatch z⟩
      · rw [decide_eq_false q, if_neg (by simp), valV_neg q]
        exact ⟨i1, i2⟩
theorem any_val (kvs : List (Key × V)) (k : Key) : hasK (kvs.map fun p => keyD p.1) (keyD k) = kvs.any fun kv => decide (kv.1 = k) := by
  unfold hasK
  rw [List.any_map]
  congr 1
  funext p
  exact eqK_key _ _
theorem put_val : ∀ {kvs : List (Key × V)} {vs : List D} {k : Key} {w : D} {u : V}, RpL K G vs (kvs.map (·.2)) → Rp K G w u →
    HDic (.dK (putK kvs k u)) (putKs (kvs.map fun p => keyD p.1) (keyD k)) ((putK kvs k u).map (·.2)) ∧ RpL K G (putVs (kvs.map fun p => keyD p.1) vs (keyD k) w) ((putK kvs k u).map (·.2)) := fun {kvs vs k w u} h hw => by
  unfold putKs putVs putK
  rw [any_val]
  cases q : (kvs.any fun kv => decide (kv.1 = k)) with
  | true =>
    rw [if_pos rfl, if_pos rfl, if_pos rfl]
    refine ⟨⟨_, rfl, ?_, rfl⟩, ?_⟩
    · rw [List.map_map]
      apply List.map_congr_left
      intro p _
      show _ = keyD (if p.1 = k then (p.1, u) else p).1
      split <;> rfl
    · clear q
      induction kvs generalizing vs with
      | nil =>
        match vs, h with
        | [], _ => exact rfl
      | cons p kvs ih =>
        match vs, h with
        | d :: ds, h =>
          obtain ⟨x, r, e, h1, h2⟩ := h
          rw [List.map_cons] at e
          cases e
          rw [List.map_cons, List.map_cons, List.map_cons, List.zipWith_cons_cons, eqK_key]
          refine ⟨_, _, rfl, ?_, ih h2⟩
          by_cases z : p.1 = k
          · rw [decide_eq_true z, if_pos rfl, if_pos z]; exact hw
          · rw [decide_eq_false z, if_neg (by simp), if_neg z]; exact h1
  | false =>
    rw [if_neg (by simp), if_neg (by simp), if_neg (by simp)]
    refine ⟨⟨_, rfl, by simp, rfl⟩, ?_⟩
    rw [List.map_append]
    exact h.append ⟨u, [], rfl, hw, rfl⟩
end
end DL


set_option Elab.async false
set_option linter.all false
set_option maxRecDepth 100000
set_option autoImplicit true
namespace DL
open PySem PySem.Spec PyProof.Rows L2
/-! ### owned dicts -/
section
variable {K : PySem.W.Frag} {F : Fm} {G G' H H' : Hp} {σ : L2.St} {δ : Ev}
theorem hown_mem {p : Addr} {ks vs : List D} {i : Nat} (h : δ[i]? = some (.h p ks vs)) : p ∈ owns δ := List.mem_filterMap.mpr ⟨_, List.mem_of_getElem? h, rfl⟩
theorem owns_seth (δ : Ev) (i : Nat) (p : Addr) (ks vs xs : List D) : owns (δ.set i (.h p ks vs)) = owns (δ.set i (.o p xs)) := by
  induction δ generalizing i with
  | nil => rfl
  | cons s δ ih =>
    cases i with
    | zero => rfl
    | succ i =>
      show List.filterMap Sl.own (s :: δ.set i _) = List.filterMap Sl.own (s :: δ.set i _)
      rw [List.filterMap_cons, List.filterMap_cons]
      have := ih i
      unfold owns at this
      rw [this]
theorem owns_hsame : ∀ (δ : Ev) (i : Nat) (p : Addr) (ks vs ks' vs' : List D), δ[i]? = some (.h p ks vs) → owns (δ.set i (.h p ks' vs')) = owns δ
  | [], _, _, _, _, _, _, h => by simp at h
  | a :: δ, 0, p, ks, vs, ks', vs', h => by
    rw [List.getElem?_cons_zero] at h
    cases h
    rfl
  | a :: δ, i + 1, p, ks, vs, ks', vs', h => by
    rw [List.getElem?_cons_succ] at h
    show List.filterMap Sl.own (a :: δ.set i _) = List.filterMap Sl.own (a :: δ)
    rw [List.filterMap_cons, List.filterMap_cons]
    have ih : List.filterMap Sl.own (δ.set i (.h p ks' vs')) = List.filterMap Sl.own δ := owns_hsame δ i p ks vs ks' vs' h
    rw [ih]
theorem Rel.seth {i : Nat} {p : Addr} {ks vs : List D} {o : HO} {us : List V} (R : Rel K T F G H σ δ) (h1 : H p = some o) (h2 : G p = none) (h0 : HDic o ks us) (h3 : RpL K G vs us) (h4 : p ∉ owns δ) (h5 : p ∈ F.B ∨ ¬ nT F.H0 p) :
    Rel K T F G H (σ.set i (some (.ref p))) (δ.set i (.h p ks vs)) where
  ex := R.ex
  sl := R.sl.set i ⟨rfl, h2, o, us, h1, h0, h3⟩
  sep := by rw [owns_seth δ i p ks vs []]; exact owns_set_nodup δ i h4 R.sep
  own := fun q hq => by
    rw [owns_seth δ i p ks vs []] at hq
    rcases owns_set_mem δ i q hq with z | z
    · rw [z]; exact h5
    · exact R.own q z
  keep := R.keep
  there := R.there
  gh := R.gh
  tab := R.tab
theorem SlL.hmut {p : Addr} {ks vs ks' vs' : List D} {o : HO} {us : List V} : ∀ {δ : Ev} {σ : L2.St} {j : Nat}, δ[j]? = some (.h p ks vs) → (owns δ).Nodup → HDic o ks' us → RpL K G vs' us → SlL K G H δ σ → SlL K G (upd H p o) (δ.set j (.h p ks' vs')) σ
  | [], _, _, e, _, _, _, _ => by simp at e
  | s :: δ, _, 0, e, nd, h0, hy, .cons h t => by
    rw [List.getElem?_cons_zero] at e
    cases e
    obtain ⟨h1, h2, _⟩ := h
    have nd : (p :: owns δ).Nodup := nd
    refine .cons ⟨h1, h2, o, us, upd_same, h0, hy⟩ (t.mono (Ex.refl G) fun q hq o' _ a b => ⟨?_, b⟩)
    rw [upd_ne (fun z => (List.nodup_cons.mp nd).1 (by rw [← z]; exact hq))]
    exact a
  | s :: δ, _, j + 1, e, nd, h0, hy, .cons h t => by
    rw [List.getElem?_cons_succ] at e
    have sub : (owns δ).Sublist (owns (s :: δ)) := by
      show (List.filterMap Sl.own δ).Sublist (List.filterMap Sl.own (s :: δ))
      rw [List.filterMap_cons]
      split
      · exact List.Sublist.refl _
      · exact List.sublist_cons_self _ _
    refine .cons (h.mono (Ex.refl G) fun q o' hs _ a b => ⟨?_, b⟩) (SlL.hmut e (nd.sublist sub) h0 hy t)
    have nd : (q :: owns δ).Nodup := by
      have e1 : owns (s :: δ) = List.filterMap Sl.own (s :: δ) := rfl
      rw [e1, List.filterMap_cons, hs] at nd
      exact nd
    rw [upd_ne (fun z => (List.nodup_cons.mp nd).1 (by rw [z]; exact hown_mem e))]
    exact a
theorem Rel.hmut {j : Nat} {p : Addr} {ks vs ks' vs' : List D} {o : HO} {us : List V} (R : Rel K T F G H σ δ) (e : δ[j]? = some (.h p ks vs)) (h0 : HDic o ks' us) (h : RpL K G vs' us) : Rel K T F G (upd H p o) σ (δ.set j (.h p ks' vs')) where
  ex := Ex.mut R.ex (R.hget e).2.1
  sl := SlL.hmut e R.sep h0 h R.sl
  sep := by rw [owns_hsame δ j p _ _ _ _ e]; exact R.sep
  own := fun q hq => R.own q (by rw [owns_hsame δ j p _ _ _ _ e] at hq; exact hq)
  keep := fun a o' h1 h2 h3 => by
    rw [upd_ne (fun z => ?_)]
    · exact R.keep a o' h1 h2 h3
    · rcases R.own p (hown_mem e) with q | q
      · exact h1 (by rw [z]; exact q)
      · exact q ⟨o', by rw [← z]; exact h2, h3⟩
  there := fun a h1 => nT_un h0.nt fun _ => R.there a h1
  gh := R.gh
  tab := by
    obtain ⟨_, _, o1, us1, a1, a2, _⟩ := R.hget e
    exact tabs_upd R.tab (by rw [a1]; intro ps z; exact a2.nt ps (Option.some.inj z)) (by rw [a1]; intro q z; exact a2.nc _ _ (Option.some.inj z))
end
/-! ### rules -/
/-- x = {} -/
def sSetH (i : Nat) : DS := fun Dd δ => ∀ p, p ∉ owns δ → Dd.nx (δ.set i (.h p [] []))
section
variable {X : Cx} {T : List (Addr × Str)} {W : WX} {b e d : Expr} {rk re rd : DE} {pos : Pos}
theorem ds_setH {i : Nat} {x : Str} {pos' pd : Pos} (hN : X.N.Nodup) (hi : X.N[i]? = some x) (hx : Loc X.env.scope x) (hs : swapsWith (.Dict [] [] pd) (some (.Name x pos')) pos.line X.env = pure false := by rfl)
    (hf : X.fn x = true ∨ X.env.scope.names.lookup x = some .local := by first | exact .inl rfl | exact .inr rfl | assumption) : PS X (.Assign [.Name x pos'] (.Dict [] [] pd) pos) (upS X.K T W (sSetH i)) := PSi (ps_set hN hi hx pe_dnewK hs hf) fun Dn σ H h => by
  obtain ⟨F, G, δ, Dd, R, hr, k⟩ := h
  refine fun p hp => ?_
  obtain ⟨z1, z2⟩ := R.fresh_own (nT_no hp)
  exact k.nx G _ _ _ (Ex.refl G) ((R.temp (o := .dK []) hp).seth (ks := []) (vs := []) upd_same (R.ex.back hp) ⟨[], rfl, rfl, rfl⟩ rfl z2 (.inr z1)) (hr p z2)
/-- the dict in slot j at a key, there -/
def dHGet (j : Nat) (rk : DE) : DE := fun Xc δ Q => match δ[j]? with
  | some (.h _ _ _) => rk Xc δ fun k δ1 => match δ1[j]? with
    | some (.h _ ks vs) => keyOk k = true ∧ ∃ v, lkD ks vs k = some v ∧ Q v δ1
    | _ => False
  | _ => False
theorem dx_hget (j : Nat) {x : Str} {px : Pos} (hu : X.A.units + 1 < cLine) (hb : PE X b (up X.K T W rk)) (hN : X.N[j]? = some x := by rfl) (hv : Vis X.env.scope x := by first | exact Or.inl rfl | exact Or.inr (Or.inl rfl) | exact Or.inr (Or.inr rfl)) (hs : NoSl b := by exact fun _ _ => rfl) (hd : (x == ("__debug__" : Str)) = false := by decide)
    (hcd : (x == ("__classdict__" : Str)) = false := by decide) : PE X (.Subscript (.Name x px) b pos) (up X.K T W (dHGet j rk)) := PEi (pe_dget hu (pe_var hN hv hd hcd) hb hs) fun σ H Q h => by
  obtain ⟨F, G, δ, Xc, Qd, R, hr, hx, k⟩ := h
  unfold dHGet at hr
  split at hr
  · rename_i p0 ks0 vs0 hj0
    obtain ⟨h0, _⟩ := R.hget hj0
    refine ⟨_, h0, F, G, δ, Xc, _, R, hr, hx, fun G1 H1 w kd δ1 e1 R1 p1 q1 => ?_⟩
    split at q1
    · rename_i p ks vs hj
      obtain ⟨kk, z, hz, q⟩ := q1
      obtain ⟨h1, h2, o, us, h3, ⟨kvs, rfl, rfl, rfl⟩, h5⟩ := R1.hget hj
      rw [h0] at h1
      cases h1
      obtain ⟨key, rfl⟩ := keyOk_of kk
      obtain ⟨u, hu', pu⟩ := (lk_val (k := key) h5).1 z hz
      have ew : w = kV key := by cases key <;> exact p1
      subst ew
      exact ⟨p0, u, rfl, by rw [← hu']; exact DGet.k h3, k G1 H1 u z δ1 e1 R1 pu q⟩
    · exact q1.elim
  · exact hr.elim
/-- a key in the dict in slot j -/
def dHIn (neg : Bool) (j : Nat) (rk : DE) : DE := fun Xc δ Q => rk Xc δ fun k δ1 => match δ1[j]? with
    | some (.h _ ks vs) => keyOk k = true ∧ Q (.bl (if neg then !hasK ks k else hasK ks k)) δ1
    | _ => False
theorem dB_up {r : DE} : ∀ σ H Q, upT X.K T W (dB r) σ H Q → up X.K T W r σ H (fun d H' => ∃ b, d = .bl b ∧ Q b H') := fun σ H Q h => by
  obtain ⟨F, G, δ, Xc, Qd, R, hr, hx, k⟩ := h
  refine ⟨F, G, δ, Xc, _, R, hr, hx, fun G1 H1 w kd δ1 e1 R1 p1 q1 => ?_⟩
  split at q1
  · rename_i b
    obtain rfl := p1
    exact ⟨b, rfl, k G1 H1 b δ1 e1 R1 q1⟩
  · exact q1.elim
theorem hin_imp {σ : L2.St} {H : Hp} {P P' : V → Hp → Prop} (h : up X.K T W rk σ H P) (k : ∀ y H1, P y H1 → P' y H1) : up X.K T W rk σ H P' := by
  obtain ⟨F, G, δ, Xc, Qd, R, hr, hx, kk⟩ := h
  exact ⟨F, G, δ, Xc, Qd, R, hr, hx, fun G' H' v d δ' e R' p q => k _ _ (kk G' H' v d δ' e R' p q)⟩
theorem hin_core {j : Nat} {neg : Bool} : ∀ σ H Q, up X.K T W (dHIn neg j rk) σ H Q → up X.K T W rk σ H fun y H1 => ∃ a kvs key, σ[j]? = some (some (.ref a)) ∧ y = kV key ∧ H1 a = some (.dK kvs) ∧ Q (.bl (if neg then !(valV kvs key).isSome else (valV kvs key).isSome)) H1 := fun σ H Q h => by
  obtain ⟨F, G, δ, Xc, Qd, R, hr, hx, k⟩ := h
  refine ⟨F, G, δ, Xc, _, R, hr, hx, fun G1 H1 w kd δ1 e1 R1 p1 q1 => ?_⟩
  split at q1
  · rename_i p ks vs hj
    obtain ⟨kk, q⟩ := q1
    obtain ⟨h1, h2, o, us, h3, ⟨kvs, rfl, rfl, rfl⟩, h5⟩ := R1.hget hj
    obtain ⟨key, rfl⟩ := keyOk_of kk
    have ew : w = kV key := by cases key <;> exact p1
    rw [any_val, valV_any] at q
    exact ⟨p, kvs, key, h1, ew, h3, k G1 H1 _ (.bl _) δ1 e1 R1 rfl q⟩
  · exact q1.elim
theorem dx_hin (j : Nat) {x : Str} {px : Pos} (hu : X.A.units + 1 < cLine) (hb : PE X b (up X.K T W rk)) (hN : X.N[j]? = some x := by rfl) (hv : Vis X.env.scope x := by first | exact Or.inl rfl | exact Or.inr (Or.inl rfl) | exact Or.inr (Or.inr rfl)) (hd : (x == ("__debug__" : Str)) = false := by decide)
    (hcd : (x == ("__classdict__" : Str)) = false := by decide) (hm : behindInMarks .In (.Name x px) = false := by rfl) : PE X (.Compare b [.In] [.Name x px] pos) (up X.K T W (dHIn false j rk)) := PEi (pe_cmp (pc_din hu hb (pe_var hN hv hd hcd)) hm) fun σ H Q h => hin_imp (hin_core σ H Q h) fun y H1 ⟨a, kvs, key, h1, h2, h3, q⟩ => ⟨_, h1, a, valV kvs key, rfl, by rw [h2]; exact DGet.k h3, q⟩
theorem dx_hnotin (j : Nat) {x : Str} {px : Pos} (hu : X.A.units + 1 < cLine) (hb : PE X b (up X.K T W rk)) (hN : X.N[j]? = some x := by rfl) (hv : Vis X.env.scope x := by first | exact Or.inl rfl | exact Or.inr (Or.inl rfl) | exact Or.inr (Or.inr rfl)) (hd : (x == ("__debug__" : Str)) = false := by decide)
    (hcd : (x == ("__classdict__" : Str)) = false := by decide) (hm : behindInMarks .NotIn (.Name x px) = false := by rfl) : PE X (.Compare b [.NotIn] [.Name x px] pos) (up X.K T W (dHIn true j rk)) := PEi (pe_cmp (pc_dnotin hu hb (pe_var hN hv hd hcd)) hm) fun σ H Q h => hin_imp (hin_core σ H Q h) fun y H1 ⟨a, kvs, key, h1, h2, h3, q⟩ => ⟨_, h1, a, valV kvs key, rfl, by rw [h2]; exact DGet.k h3, q⟩
theorem dt_hin (j : Nat) {x : Str} {px : Pos} (hu : X.A.units + 1 < cLine) (hb : PE X b (up X.K T W rk)) (hN : X.N[j]? = some x := by rfl) (hv : Vis X.env.scope x := by first | exact Or.inl rfl | exact Or.inr (Or.inl rfl) | exact Or.inr (Or.inr rfl)) (hd : (x == ("__debug__" : Str)) = false := by decide)
    (hcd : (x == ("__classdict__" : Str)) = false := by decide) (hm : behindInMarks .In (.Name x px) = false := by rfl) : PT X (.Compare b [.In] [.Name x px] pos) (upT X.K T W (dB (dHIn false j rk))) := PTi (pt_cmp (pc_din hu hb (pe_var hN hv hd hcd)) hm) fun σ H Q h => hin_imp (hin_core σ H _ (dB_up σ H Q h)) fun y H1 ⟨a, kvs, key, h1, h2, h3, q⟩ => ⟨_, h1, a, valV kvs key, rfl, by rw [h2]; exact DGet.k h3, q⟩
theorem dt_hnotin (j : Nat) {x : Str} {px : Pos} (hu : X.A.units + 1 < cLine) (hb : PE X b (up X.K T W rk)) (hN : X.N[j]? = some x := by rfl) (hv : Vis X.env.scope x := by first | exact Or.inl rfl | exact Or.inr (Or.inl rfl) | exact Or.inr (Or.inr rfl)) (hd : (x == ("__debug__" : Str)) = false := by decide)
    (hcd : (x == ("__classdict__" : Str)) = false := by decide) (hm : behindInMarks .NotIn (.Name x px) = false := by rfl) : PT X (.Compare b [.NotIn] [.Name x px] pos) (upT X.K T W (dB (dHIn true j rk))) := PTi (pt_cmp (pc_dnotin hu hb (pe_var hN hv hd hcd)) hm) fun σ H Q h => hin_imp (hin_core σ H _ (dB_up σ H Q h)) fun y H1 ⟨a, kvs, key, h1, h2, h3, q⟩ => ⟨_, h1, a, valV kvs key, rfl, by rw [h2]; exact DGet.k h3, q⟩
/-- x[k] = e -/
def sHPut (j : Nat) (rk re : DE) : DS := fun Dd δ => match δ[j]? with
  | some (.h _ _ _) => re Dd.xe δ fun e δ1 => rk Dd.xe δ1 fun k δ2 => match δ2[j]? with
    | some (.h p ks vs) => keyOk k = true ∧ ks.length < sizeLine ∧ Dd.nx (δ2.set j (.h p (putKs ks k) (putVs ks vs k e)))
    | _ => False
  | _ => False
theorem ds_hput (j : Nat) {x : Str} {px pos' : Pos} (hu : X.A.units + 1 < cLine) (hb : PE X b (up X.K T W rk)) (he : PE X e (up X.K T W re)) (hN : X.N[j]? = some x := by rfl) (hv : Vis X.env.scope x := by first | exact Or.inl rfl | exact Or.inr (Or.inl rfl) | exact Or.inr (Or.inr rfl)) (hd : (x == ("__debug__" : Str)) = false := by decide)
    (hcd : (x == ("__classdict__" : Str)) = false := by decide) (hs : swapsWith e (some (.Subscript (.Name x px) b pos')) pos.line X.env = pure false := by rfl) : PS X (.Assign [.Subscript (.Name x px) b pos'] e pos) (upS X.K T W (sHPut j rk re)) := PSi (ps_dput hu (pe_var hN hv hd hcd) hb he hs) fun Dn σ H h => by
  obtain ⟨F, G, δ, Dd, R, hr, k⟩ := h
  unfold sHPut at hr
  split at hr
  · rename_i p0 ks0 vs0 hj0
    obtain ⟨h0, _⟩ := R.hget hj0
    refine ⟨F, G, δ, Dd.xe, _, R, hr, k.x, fun G1 H1 w d δ1 e1 R1 p1 q1 => ⟨_, h0, F, G1, δ1, Dd.xe, _, R1, q1, (k.mono e1).x, fun G2 H2 w2 d2 δ2 e2 R2 p2 q2 => ?_⟩⟩
    split at q2
    · rename_i p ks vs hj
      obtain ⟨kk, hz, q⟩ := q2
      obtain ⟨h1, h2, o, us, h3, ⟨kvs, rfl, rfl, rfl⟩, h5⟩ := R2.hget hj
      rw [h0] at h1
      cases h1
      obtain ⟨key, rfl⟩ := keyOk_of kk
      have ew : w2 = kV key := by cases key <;> exact p2
      subst ew
      obtain ⟨a1, a2⟩ := put_val (k := key) h5 (Rp.mono e2 _ _ p1)
      refine ⟨p0, _, rfl, DPut.k h3 (by rw [List.length_map] at hz; exact hz), k.nx G2 _ σ _ (e1.trans e2) (R2.hmut hj a1 a2) q⟩
    · exact q2.elim
  · exact hr.elim
/-- x.get(k, d) -/
def dHGetD (j : Nat) (rk rd : DE) : DE := fun Xc δ Q => match δ[j]? with
  | some (.h _ _ _) => rk Xc δ fun k δ1 => rd Xc δ1 fun d δ2 => match δ2[j]? with
    | some (.h _ ks vs) => keyOk k = true ∧ Q ((lkD ks vs k).getD d) δ2
    | _ => False
  | _ => False
theorem dx_hgetD (j : Nat) {x : Str} {px apos : Pos} (hu : X.A.units + 1 < cLine) (hb : PE X b (up X.K T W rk)) (he : PE X d (up X.K T W rd)) (m : M2 X (.Name x px) "get" apos b d pos := by exact ⟨rfl, rfl, rfl, rfl⟩) (hN : X.N[j]? = some x := by rfl) (hv : Vis X.env.scope x := by first | exact Or.inl rfl | exact Or.inr (Or.inl rfl) | exact Or.inr (Or.inr rfl)) (hd : (x == ("__debug__" : Str)) = false := by decide)
    (hcd : (x == ("__classdict__" : Str)) = false := by decide) : PE X (.Call (.Attribute (.Name x px) "get" apos) [b, d] [] pos) (up X.K T W (dHGetD j rk rd)) := PEi (pe_dget2 hu (pe_var hN hv hd hcd) hb he m) fun σ H Q h => by
  obtain ⟨F, G, δ, Xc, Qd, R, hr, hx, k⟩ := h
  unfold dHGetD at hr
  split at hr
  · rename_i p0 ks0 vs0 hj0
    obtain ⟨h0, _, o0, us0, h3', ⟨kvs0, rfl, _, _⟩, _⟩ := R.hget hj0
    refine ⟨_, h0, p0, rfl, .inl ⟨kvs0, .inl h3'⟩, F, G, δ, Xc, _, R, hr, hx, fun G1 H1 w kd δ1 e1 R1 p1 q1 => ⟨F, G1, δ1, Xc, _, R1, q1, hx.mono e1, fun G2 H2 w2 dd δ2 e2 R2 p2 q2 => ?_⟩⟩
    split at q2
    · rename_i p ks vs hj
      obtain ⟨kk, q⟩ := q2
      obtain ⟨h1, h2, o, us, h3, ⟨kvs, rfl, rfl, rfl⟩, h5⟩ := R2.hget hj
      rw [h0] at h1
      cases h1
      obtain ⟨key, rfl⟩ := keyOk_of kk
      have ew : w = kV key := by cases key <;> exact p1
      subst ew
      obtain ⟨l1, l2⟩ := lk_val (k := key) h5
      refine ⟨valV kvs key, DGet.k h3, ?_⟩
      cases z : lkD (kvs.map fun p => keyD p.1) vs (keyD key) with
      | none =>
        rw [z] at q
        rw [l2 z]
        exact k G2 H2 w2 dd δ2 (e1.trans e2) R2 p2 q
      | some v =>
        rw [z] at q
        obtain ⟨u, hu', pu⟩ := l1 v z
        rw [hu']
        exact k G2 H2 u v δ2 (e1.trans e2) R2 pu q
    · exact q2.elim
  · exact hr.elim
/-- len(x) -/
def dHLen (j : Nat) : DE := fun _ δ Q => match δ[j]? with
  | some (.h _ ks _) => Q (.int (ks.length : Nat)) δ
  | _ => False
theorem dx_hlen (j : Nat) {x : Str} {px p : Pos} (hm : X.mg "len" = none) (hg : Gl X "len" := by rfl) (hN : X.N[j]? = some x := by rfl) (hv : Vis X.env.scope x := by first | exact Or.inl rfl | exact Or.inr (Or.inl rfl) | exact Or.inr (Or.inr rfl)) (hd : (x == ("__debug__" : Str)) = false := by decide)
    (hcd : (x == ("__classdict__" : Str)) = false := by decide) (hs : starEach [.Name x px] X.env = (false, eval (.Name x px) X.env) :: starEach [] X.env := by rfl) (hpl : (backTo pos (starEach [] X.env)).any (·.1) = false := by rfl) :
    PE X (.Call (.Name "len" p) [.Name x px] [] pos) (up X.K T W (dHLen j)) := PEi (pe_callB call_lenD hg hm PySem.boot_len (pa_cons (pe_var hN hv hd hcd) pa_nil hs) (he := hs) (hpl := hpl)) fun σ H Q h => by
  obtain ⟨F, G, δ, Xc, Qd, R, hr, hx, k⟩ := h
  unfold dHLen at hr
  split at hr
  · rename_i p0 ks vs hj
    obtain ⟨h1, h2, o, us, h3, ⟨kvs, rfl, rfl, rfl⟩, h5⟩ := R.hget hj
    refine ⟨_, h1, p0, kvs, rfl, h3, ?_⟩
    rw [List.length_map] at hr
    exact k G H _ (.int _) δ (Ex.refl G) R rfl hr
  · exact hr.elim
/-- list(x): the keys, a new list -/
def fHKeys (j : Nat) : DF := fun _ δ Q => match δ[j]? with
  | some (.h _ ks _) => Q ks δ
  | _ => False
theorem RpL.keys {K : PySem.W.Frag} {G : Hp} : ∀ kvs : List (Key × V), RpL K G (kvs.map fun p => keyD p.1) (kvs.map fun p => kV p.1)
  | [] => rfl
  | p :: kvs => ⟨_, _, rfl, by obtain ⟨k, v⟩ := p; cases k <;> exact rfl, RpL.keys kvs⟩
theorem df_hkeys (j : Nat) {x : Str} {px p : Pos} (hc : X.calm = true) (hm : X.mg "list" = none) (hg : Gl X "list" := by rfl) (hN : X.N[j]? = some x := by rfl) (hv : Vis X.env.scope x := by first | exact Or.inl rfl | exact Or.inr (Or.inl rfl) | exact Or.inr (Or.inr rfl)) (hd : (x == ("__debug__" : Str)) = false := by decide)
    (hcd : (x == ("__classdict__" : Str)) = false := by decide) (hs : starEach [.Name x px] X.env = (false, eval (.Name x px) X.env) :: starEach [] X.env := by rfl) (hpl : (backTo pos (starEach [] X.env)).any (·.1) = false := by rfl) :
    PE X (.Call (.Name "list" p) [.Name x px] [] pos) (upF X.K T W (fHKeys j)) := PEi (pe_callTy (call_list_dK hc) hg hm b_list (pa_cons (pe_var hN hv hd hcd) pa_nil hs) (he := hs) (hpl := hpl)) fun σ H Q h => by
  obtain ⟨F, G, δ, Xc, Qd, R, hr, hx, k⟩ := h
  unfold fHKeys at hr
  split at hr
  · rename_i p0 ks vs hj
    obtain ⟨h1, h2, o, us, h3, ⟨kvs, rfl, rfl, rfl⟩, h5⟩ := R.hget hj
    exact ⟨_, h1, p0, kvs, rfl, h3, newF (Ex.refl G) R (RpL.keys kvs) hr k⟩
  · exact hr.elim
/-- from here on slot j's dict is data -/
theorem Rel.hfreeze {K : PySem.W.Frag} {T : List (Addr × Str)} {F : Fm} {G H : Hp} {σ : L2.St} {δ : Ev} {j : Nat} {p : Addr} {ks vs : List D} (R : Rel K T F G H σ δ) (e : δ[j]? = some (.h p ks vs)) :
    ∃ G', Ex G G' ∧ Rel K T F G' H σ (δ.set j (.d (.dic ks vs))) := by
  obtain ⟨h1, h2, o, us, h3, h0, h4⟩ := R.hget e
  have hj : j < σ.length := (List.getElem?_eq_some_iff.mp h1).1
  have hs : σ.set j (some (.ref p)) = σ := by
    rw [← (List.getElem?_eq_some_iff.mp h1).2]
    exact List.set_getElem_self hj
  have no : p ∉ owns (δ.set j .u) := by
    have e2 : (δ.set j (.o p [] : Sl))[j]? = some (.o p []) := by
      rw [List.getElem?_set_self (List.getElem?_eq_some_iff.mp e).1]
    have nd : (owns (δ.set j (.o p []))).Nodup := by
      rw [← owns_seth δ j p ks vs [], owns_hsame δ j p ks vs ks vs e]; exact R.sep
    have := owns_out _ j e2 nd
    rwa [List.set_set] at this
  have R1 : Rel K T F G H σ (δ.set j .u) := by
    have := R.setu (i := j) (w := some (.ref p))
    rw [hs] at this
    exact this
  have R2 : Rel K T F (upd G p o) H σ (δ.set j .u) := {
    ex := fun a o' h => by
      by_cases z : a = p
      · rw [z, upd_same] at h
        rw [z, h3, ← h]
      · rw [upd_ne z] at h
        exact R.ex a o' h
    sl := R1.sl.mono (Ex.new h2) fun q hq o' _ a b => ⟨a, by rw [upd_ne (fun z => no (by rw [← z]; exact hq))]; exact b⟩
    sep := R1.sep
    own := R1.own
    keep := R.keep
    there := R.there
    tab := ⟨R.tab.1, noT_upd R.tab.2 h0.nt⟩
    gh := fun a a0 a1 a2 => by
      by_cases z : a = p
      · rcases R.own p (hown_mem e) with q | q
        · exact absurd (by rw [z]; exact q) a0
        · exact absurd (by rw [← z]; exact a1) q
      · rw [upd_ne z] at a2
        exact R.gh a a0 a1 a2 }
  refine ⟨upd G p o, Ex.new h2, ?_⟩
  have := R2.setd (i := j) (x := .dic ks vs) (v := .ref p) ⟨p, o, us, rfl, upd_same, h0, RpL.mono (Ex.new h2) _ _ h4⟩
  rw [hs, List.set_set] at this
  exact this
def sFzH (j : Nat) (r : DS) : DS := fun Dd δ => match δ[j]? with
  | some (.h _ ks vs) => r Dd (δ.set j (.d (.dic ks vs)))
  | _ => False
theorem ds_fzH {rest : List Stmt} {r : DS} (j : Nat) (h : PSs X rest (upS X.K T W r)) : PSs X rest (upS X.K T W (sFzH j r)) := PSsi h fun Dn σ H h => by
  obtain ⟨F, G, δ, Dd, R, hr, k⟩ := h
  unfold sFzH at hr
  split at hr
  · rename_i p ks vs hj
    obtain ⟨G', e, R'⟩ := R.hfreeze hj
    exact ⟨F, _, _, Dd, R', hr, k.mono e⟩
  · exact hr.elim
end
end DL


set_option Elab.async false
set_option linter.all false
set_option maxRecDepth 100000
set_option autoImplicit true
namespace DL
open PySem PySem.Spec PyProof.Rows L2
theorem RpL.dropLast {K : PySem.W.Frag} {G : Hp} {xs : List D} {us : List V} (h : RpL K G xs us) : RpL K G xs.dropLast us.dropLast := by
  rw [List.dropLast_eq_take, List.dropLast_eq_take, h.length]
  exact h.take _
theorem RpL.eraseIdx {K : PySem.W.Frag} {G : Hp} {xs : List D} {us : List V} (k : Nat) (h : RpL K G xs us) : RpL K G (xs.eraseIdx k) (us.eraseIdx k) := by
  rw [List.eraseIdx_eq_take_drop_succ, List.eraseIdx_eq_take_drop_succ]
  exact (h.take _).append (h.drop _)
/-! ### methods that change a list -/
section
variable {X : Cx} {T : List (Addr × Str)} {W : WX} {e b : Expr} {re ri : DE} {pos : Pos}
/-- x.pop() -/
def dPop (j : Nat) : DE := fun _ δ Q => match δ[j]? with
  | some (.o p xs) => ∃ y, xs[xs.length - 1]? = some y ∧ Q y (δ.set j (.o p xs.dropLast))
  | _ => False
theorem dx_pop (j : Nat) {x : Str} {px apos pos' : Pos} (hN : X.N[j]? = some x := by rfl) (hv : Vis X.env.scope x := by first | exact Or.inl rfl | exact Or.inr (Or.inl rfl) | exact Or.inr (Or.inr rfl)) (hd : (x == ("__debug__" : Str)) = false := by decide)
    (hcd : (x == ("__classdict__" : Str)) = false := by decide) (hbase : attributeBase (.Name x px) "pop" X.env (eval (.Name x px) X.env) = eval (.Name x px) X.env := by rfl) (hline : (apos.endLine == pos'.line) = true := by rfl) :
    PE X (.Call (.Attribute (.Name x px) "pop" apos) [] [] pos') (up X.K T W (dPop j)) := PEi (pe_bm0 PySem.F.plainAttrs_list PySem.F.slot_list_pop PySem.F.type_list_pop mt_pop (pe_var hN hv hd hcd) hbase hline) fun σ H Q h => by
  obtain ⟨F, G, δ, Xc, Qd, R, hr, hx, k⟩ := h
  unfold dPop at hr
  split at hr
  · rename_i p xs hj
    obtain ⟨h1, h2, us, h3, h4⟩ := R.oget hj
    obtain ⟨y, hy, q⟩ := hr
    obtain ⟨u, hu, pu⟩ := h4.get hy
    refine ⟨_, h1, .inl ⟨rfl, us, .inl (.inl h3)⟩, p, us, u, rfl, rfl, h3, by rw [h4.length]; exact hu, k G _ u y _ (Ex.refl G) (R.mut hj h4.dropLast) pu q⟩
  · exact hr.elim
/-- x.pop(i) -/
def dPopAt (j : Nat) (ri : DE) : DE := fun Xc δ Q => match δ[j]? with
  | some (.o _ _) => ri Xc δ fun d δ1 => match δ1[j]?, d with
    | some (.o p xs), .int i => 0 ≤ i ∧ i.toNat < 9223372036854775808 ∧ ∃ y, xs[i.toNat]? = some y ∧ Q y (δ1.set j (.o p (xs.eraseIdx i.toNat)))
    | _, _ => False
  | _ => False
theorem dx_popAt (j : Nat) {x : Str} {px apos pos' : Pos} (he : PE X e (up X.K T W ri)) (hN : X.N[j]? = some x := by rfl) (hv : Vis X.env.scope x := by first | exact Or.inl rfl | exact Or.inr (Or.inl rfl) | exact Or.inr (Or.inr rfl)) (hd : (x == ("__debug__" : Str)) = false := by decide)
    (hcd : (x == ("__classdict__" : Str)) = false := by decide) (hbase : attributeBase (.Name x px) "pop" X.env (eval (.Name x px) X.env) = eval (.Name x px) X.env := by rfl)
    (hfew : ((backTo pos' (starEach [e] X.env)).all (fun x => !x.1) && (backToKw pos' (keywordEach [] X.env)).all (fun x => x.1.isSome)
      && decide (([e] : List Expr).length + ([] : List Keyword).length + (if ([] : List Keyword).isEmpty then 0 else 1) < 30)) = true := by rfl)
    (hline : (apos.endLine == pos'.line) = true := by rfl) (hs : starEach [e] X.env = (false, eval e X.env) :: starEach [] X.env := by rfl) (hplain : (backTo pos' (starEach [] X.env)).any (·.1) = false := by rfl) :
    PE X (.Call (.Attribute (.Name x px) "pop" apos) [e] [] pos') (up X.K T W (dPopAt j ri)) := PEi (pe_bm PySem.F.plainAttrs_list PySem.F.slot_list_pop PySem.F.type_list_pop mt_popAt (pe_var hN hv hd hcd) (pa_cons he pa_nil hs) hbase hfew hline hs hplain) fun σ H Q h => by
  obtain ⟨F, G, δ, Xc, Qd, R, hr, hx, k⟩ := h
  unfold dPopAt at hr
  split at hr
  · rename_i p0 xs0 hj0
    obtain ⟨h0, _, us0, h1, _⟩ := R.oget hj0
    refine ⟨_, h0, .inl ⟨rfl, us0, .inl (.inl h1)⟩, F, G, δ, Xc, _, R, hr, hx, fun G1 H1 w d δ1 e1 R1 p1 q1 => ?_⟩
    split at q1
    · rename_i p xs i hj
      obtain ⟨h2, h3, us, h4, h5⟩ := R1.oget hj
      rw [h0] at h2
      cases h2
      obtain rfl := p1
      obtain ⟨i0, i1, y, hy, q⟩ := q1
      obtain ⟨u, hu, pu⟩ := h5.get hy
      have hl : i.toNat < xs.length := (List.getElem?_eq_some_iff.mp hy).1
      refine ⟨p0, us, i, i.toNat, u, rfl, rfl, h4, by omega, by omega, ?_, hu, k G1 _ u y _ e1 (R1.mut hj (h5.eraseIdx i.toNat)) pu q⟩
      rw [h5.length]
      unfold seqIndex?
      simp [i0]
      omega
    · exact q1.elim
  · exact hr.elim
/-- x.reverse() -/
def sRev (j : Nat) : DS := fun Dd δ => match δ[j]? with
  | some (.o p xs) => Dd.nx (δ.set j (.o p xs.reverse))
  | _ => False
theorem ds_reverse (j : Nat) {x : Str} {px apos pos' : Pos} (hN : X.N[j]? = some x := by rfl) (hv : Vis X.env.scope x := by first | exact Or.inl rfl | exact Or.inr (Or.inl rfl) | exact Or.inr (Or.inr rfl)) (hd : (x == ("__debug__" : Str)) = false := by decide)
    (hcd : (x == ("__classdict__" : Str)) = false := by decide) (hbase : attributeBase (.Name x px) "reverse" X.env (eval (.Name x px) X.env) = eval (.Name x px) X.env := by rfl) (hline : (apos.endLine == pos'.line) = true := by rfl)
    (hsw : swapsWith (.Call (.Attribute (.Name x px) "reverse" apos) [] [] pos') none pos.line X.env = pure false := by rfl) :
    PS X (.Expr (.Call (.Attribute (.Name x px) "reverse" apos) [] [] pos') pos) (upS X.K T W (sRev j)) := PSi (ps_expr (pe_bm0 PySem.F.plainAttrs_list PySem.F.slot_list_reverse PySem.F.type_list_reverse mt_reverse (pe_var hN hv hd hcd) hbase hline) hsw) fun Dn σ H h => by
  obtain ⟨F, G, δ, Dd, R, hr, k⟩ := h
  unfold sRev at hr
  split at hr
  · rename_i p xs hj
    obtain ⟨h1, h2, us, h3, h4⟩ := R.oget hj
    exact ⟨_, h1, .inl ⟨rfl, us, .inl (.inl h3)⟩, p, us, rfl, rfl, h3, k.nx G _ σ _ (Ex.refl G) (R.mut hj (RpL.rev h4)) hr⟩
  · exact hr.elim
/-- x.extend(e), e a list -/
def sExt (j : Nat) (re : DE) : DS := fun Dd δ => match δ[j]? with
  | some (.o _ _) => re Dd.xe δ fun d δ1 => match δ1[j]?, d with
    | some (.o p xs), .lst ys => xs.length + ys.length ≤ sizeLine ∧ Dd.nx (δ1.set j (.o p (xs ++ ys)))
    | _, _ => False
  | _ => False
theorem ds_ext (j : Nat) {x : Str} {px apos pos' : Pos} (he : PE X e (up X.K T W re)) (hN : X.N[j]? = some x := by rfl) (hv : Vis X.env.scope x := by first | exact Or.inl rfl | exact Or.inr (Or.inl rfl) | exact Or.inr (Or.inr rfl)) (hd : (x == ("__debug__" : Str)) = false := by decide)
    (hcd : (x == ("__classdict__" : Str)) = false := by decide) (hbase : attributeBase (.Name x px) "extend" X.env (eval (.Name x px) X.env) = eval (.Name x px) X.env := by rfl)
    (hfew : ((backTo pos' (starEach [e] X.env)).all (fun x => !x.1) && (backToKw pos' (keywordEach [] X.env)).all (fun x => x.1.isSome)
      && decide (([e] : List Expr).length + ([] : List Keyword).length + (if ([] : List Keyword).isEmpty then 0 else 1) < 30)) = true := by rfl)
    (hline : (apos.endLine == pos'.line) = true := by rfl) (hs : starEach [e] X.env = (false, eval e X.env) :: starEach [] X.env := by rfl) (hplain : (backTo pos' (starEach [] X.env)).any (·.1) = false := by rfl)
    (hsw : swapsWith (.Call (.Attribute (.Name x px) "extend" apos) [e] [] pos') none pos.line X.env = pure false := by rfl) :
    PS X (.Expr (.Call (.Attribute (.Name x px) "extend" apos) [e] [] pos') pos) (upS X.K T W (sExt j re)) := PSi (ps_expr (pe_bm PySem.F.plainAttrs_list PySem.F.slot_list_extend PySem.F.type_list_extend mt_extend (pe_var hN hv hd hcd) (pa_cons he pa_nil hs) hbase hfew hline hs hplain) hsw) fun Dn σ H h => by
  obtain ⟨F, G, δ, Dd, R, hr, k⟩ := h
  unfold sExt at hr
  split at hr
  · rename_i p0 xs0 hj0
    obtain ⟨h0, _, us0, h1, _⟩ := R.oget hj0
    refine ⟨_, h0, .inl ⟨rfl, us0, .inl (.inl h1)⟩, F, G, δ, Dd.xe, _, R, hr, k.x, fun G1 H1 w d δ1 e1 R1 p1 q1 => ?_⟩
    split at q1
    · rename_i p xs ys hj
      obtain ⟨h2, h3, us, h4, h5⟩ := R1.oget hj
      rw [h0] at h2
      cases h2
      obtain ⟨b, ws, rfl, g1, g2⟩ := p1
      obtain ⟨hz, q⟩ := q1
      exact ⟨p0, b, us, ws, rfl, rfl, h4, R1.ex _ _ g1, by rw [h5.length, g2.length]; exact hz, k.nx G1 _ σ _ e1 (R1.mut hj (h5.append g2)) q⟩
    · exact q1.elim
  · exact hr.elim
end
/-! ### range with a step -/
def iR3 (s : DF) : DF := fun Xc δ Q => s Xc δ fun xs δ' => match xs with
  | [.int m, .int n, .int c] => ∃ k, RgC m n c k ∧ Q ((List.range k).map fun (i : Nat) => D.int (m + (i : Int) * c)) δ'
  | _ => False
theorem rngC_get {m c : Int} {k i : Nat} {x : D} (h : ((List.range k).map fun (i : Nat) => D.int (m + (i : Int) * c))[i]? = some x) : i < k ∧ x = .int (m + (i : Int) * c) := by
  rw [List.getElem?_map] at h
  cases q : (List.range k)[i]? with
  | none => rw [q] at h; cases h
  | some j =>
    rw [q] at h
    obtain ⟨h1, h2⟩ := List.getElem?_eq_some_iff.mp q
    rw [List.length_range] at h1
    rw [List.getElem_range] at h2
    subst h2
    exact ⟨h1, (Option.some.inj h).symm⟩
theorem itok_rc {K : PySem.W.Frag} {T : List (Addr × Str)} {G : Hp} {m c : Int} {k : Nat} : ItOk K T G (Itc m c k) ((List.range k).map fun (i : Nat) => D.int (m + (i : Int) * c)) := fun F G1 H1 σ1 δ1 i e R => by
  rw [List.length_map, List.length_range]
  refine ⟨fun hi => hi, fun x hx => ?_⟩
  obtain ⟨h1, rfl⟩ := rngC_get hx
  exact ⟨h1, fun w H2 ⟨e2, hw⟩ => by subst e2; exact ⟨G1, Ex.refl G1, R, hw⟩⟩
section
variable {X : Cx} {T : List (Addr × Str)} {W : WX} {sf : DF} {tg : Expr} {p pos : Pos}
theorem di_r3 {a b c : Expr} (hm : X.mg "range" = none) (ha : PA X [a, b, c] (upA X.K T W sf)) (hg : Gl X "range" := by rfl) (hs : starEach [a, b, c] X.env = (false, eval a X.env) :: starEach [b, c] X.env := by rfl) (hpl : (backTo pos (starEach [b, c] X.env)).any (·.1) = false := by rfl) :
    PI X tg (.Call (.Name "range" p) [a, b, c] [] pos) (upI X.K T W (iR3 sf)) := PIi (pi_range3 hg hm ha hs hpl) fun σ H R h => by
  obtain ⟨F, G, δ, Xc, Qd, Rl, hr, hx, k⟩ := h
  refine ⟨F, G, δ, Xc, _, Rl, hr, hx, fun G1 H1 vs ds δ1 e1 R1 p1 q1 => ?_⟩
  split at q1
  · rename_i m n c
    obtain ⟨v1, r1, rfl, h1, v2, r2, rfl, h2, v3, r3, rfl, h3, h4⟩ := p1
    obtain rfl := h1
    obtain rfl := h2
    obtain rfl := h3
    obtain rfl : r3 = [] := h4
    obtain ⟨kk, a1, q⟩ := q1
    exact ⟨m, n, c, kk, rfl, a1, k G1 H1 _ _ δ1 e1 R1 itok_rc q⟩
  · exact q1.elim
/-- x[i] += e of an int -/
theorem get_lst : PGet X (rIxL X.K) := by
  intro pins s σ H x y v u Q I rx ry h
  obtain ⟨p, xs, i, z, rfl, rfl, hq, he, q⟩ := h
  cases rx
  obtain ⟨t, rfl⟩ := ry
  obtain ⟨its, r, pl, hz⟩ := I.list hq
  obtain ⟨j, h1, h2, h3, h4, h5⟩ := atI_get he
  obtain ⟨w, ew, rw'⟩ := r.get h2
  have hl := r.length
  have hn := line63
  by_cases h0 : 0 ≤ i
  · have hj : i.toNat = j := by
      rw [seqIndex_of h0 h5] at h1
      exact Option.some.inj h1
    exact wpAny_getItem_list pl.isList h0 (by omega) (by rw [hj]; simpa using ew) ⟨z, H, I, rw', q⟩
  · have hj : (i + (its.toArray.size : Int)).toNat = j := by
      rw [seqIndex_neg (by omega) h4] at h1
      rw [List.size_toArray, ← hl]
      exact Option.some.inj h1
    exact wpAny_getItem_list_neg pl.isList (by omega) (by rw [List.size_toArray] <;> omega) (by omega) (by rw [hj]; simpa using ew) ⟨z, H, I, rw', q⟩
def sAugIx (j : Nat) (f : Int → Int → Int) (ri re : DE) : DS := fun Dd δ => match δ[j]? with
  | some (.o _ _) => ri Dd.xe δ fun i δ1 => match δ1[j]?, i with
    | some (.o _ xs), .int i => ∃ a n, ixN xs.length i = some n ∧ xs[n]? = some (.int a) ∧ re Dd.xe δ1 fun d δ2 => match δ2[j]?, d with
      | some (.o p ys), .int b => ∃ n, ixN ys.length i = some n ∧ Dd.nx (δ2.set j (.o p (ys.set n (.int (f a b)))))
      | _, _ => False
    | _, _ => False
  | _ => False
theorem at_of {xs : List D} {us : List V} {i : Int} {n : Nat} {K : PySem.W.Frag} {G : Hp} {a : Int} (h : RpL K G xs us) (e : ixN xs.length i = some n) (g : xs[n]? = some (.int a)) : atI us i = some (.int a) := by
  obtain ⟨u, hu, pu⟩ := h.get g
  obtain rfl := pu
  unfold atI
  rw [h.length, e]
  exact hu
theorem ds_augIx (j : Nat) {f : Int → Int → Int} {op : Operator} {b e : Expr} {ri re : DE} {x : Str} {px tpos : Pos} (hb : PE X b (up X.K T W ri)) (he : PE X e (up X.K T W re)) (hop : PIp X op (ipI f)) (hN : X.N[j]? = some x := by rfl) (hv : Vis X.env.scope x := by first | exact Or.inl rfl | exact Or.inr (Or.inl rfl) | exact Or.inr (Or.inr rfl)) (hd : (x == ("__debug__" : Str)) = false := by decide)
    (hcd : (x == ("__classdict__" : Str)) = false := by decide) (ha : ∀ ov iv new, augStore b ov iv new = (do holding [new, ov, iv] (setItem ov iv new); release [new, ov, iv] []; pure .next) := by intros; rfl) :
    PS X (.AugAssign (.Subscript (.Name x px) b tpos) op e pos) (upS X.K T W (sAugIx j f ri re)) := PSi (ps_augS (pe_var hN hv hd hcd) hb get_lst he hop set_list ha) fun Dn σ H h => by
  obtain ⟨F, G, δ, Dd, R, hr, k⟩ := h
  unfold sAugIx at hr
  split at hr
  · rename_i p0 xs0 hj0
    obtain ⟨h0, _⟩ := R.oget hj0
    refine ⟨_, h0, F, G, δ, Dd.xe, _, R, hr, k.x, fun G1 H1 w d δ1 e1 R1 p1 q1 => ?_⟩
    split at q1
    · rename_i p xs i hj
      obtain ⟨h2, h3, us, h4, h5⟩ := R1.oget hj
      rw [h0] at h2
      cases h2
      obtain rfl := p1
      obtain ⟨a, n, hn, hx, q⟩ := q1
      refine ⟨p0, us, i, .int a, rfl, rfl, .inl (.inl h4), at_of h5 hn hx, F, G1, δ1, Dd.xe, _, R1, q, (k.mono e1).x, fun G2 H2 w2 d2 δ2 e2 R2 p2 q2 => ?_⟩
      split at q2
      · rename_i p ys b hj2
        obtain ⟨f2, f3, us2, f4, f5⟩ := R2.oget hj2
        rw [h0] at f2
        cases f2
        obtain rfl := p2
        obtain ⟨n2, hn2, q⟩ := q2
        exact ⟨a, b, rfl, rfl, p0, us2, i, n2, rfl, rfl, f4, f5.setN hn2, k.nx G2 _ σ _ (e1.trans e2) (R2.mut hj2 (f5.set n2 (d := .int (f a b)) (v := .int (f a b)) rfl)) q⟩
      · exact q2.elim
    · exact q1.elim
  · exact hr.elim
end
end DL


set_option Elab.async false
set_option linter.all false
set_option maxRecDepth 100000
set_option autoImplicit true
namespace DL
open PySem PySem.Spec PyProof.Rows L2
/-- the end of a law whose defs make lambdas: (code object, table, qualified name) of each -/
theorem law_atL {l : PySem.W.OpenLaw} {w : World} {K : PySem.W.Frag} {k : Nat} {mg : Str → Option Value} {fa : Addr} {h : Heap} {S : FS} {fd : FuncData} (cs : List (Addr × Addr × Str)) (hT : ∀ p ∈ cs.map (fun t => t.2.1), h.get? p = some (PySem.W.tabObj #[])) (X : K.In h)
    (nT : ∀ t ∈ cs, K.lookup t.2.1 = none) (hC : ∀ t ∈ cs, PySem.W.codeHdIn K t.1 t.2.1 = true)
    (hb : ∀ (s : Shared) (u : Value), BindsTo s fd ⟨[u], []⟩ [("script", u)]) (hS : ∀ (ns : List Int), ns.length ≤ 63 → ∀ Qd Ed, Qd (.d (.bl true)) → S [.sq (ns.map D.int)] Qd Ed)
    (hF : ∀ base : Heap, K.In base → base.Ns mainGlobals mg → (∀ t ∈ cs, LamX.TabB base mg t.1 t.2.1) → FnOk l.prog w K mg base (L2.CX l.prog w) k fa fd ["script"] (spA K (cs.map (·.2)) 1 S)) : LamX.LawAtS l w K (L2.CX l.prog w) k 63 "script" mg fa h := by
  refine ⟨fd, cs.map fun t => (t.1, t.2.1), spA K (cs.map (·.2)) 1 S, fun p hp => ?_, fun p hp => ?_, fun p hp => ?_, hb, fun H a ns hl _ ht hs => law_spT (hS ns hl) (fun p hp => ?_) hs, fun base a b t => hF base a b fun u hu => t (u.1, u.2.1) (List.mem_map.mpr ⟨u, hu, rfl⟩)⟩
  · obtain ⟨t, ht, rfl⟩ := List.mem_map.mp hp
    exact hT t.2.1 (List.mem_map.mpr ⟨t, ht, rfl⟩)
  · obtain ⟨t, ht, rfl⟩ := List.mem_map.mp hp
    exact nT t ht
  · obtain ⟨t, ht, rfl⟩ := List.mem_map.mp hp
    exact PySem.W.codeHd_of_K X (hC t ht)
  · obtain ⟨t, h1, rfl⟩ := List.mem_map.mp hp
    exact LamX.TabS.nil (ht (t.1, t.2.1) (List.mem_map.mpr ⟨t, h1, rfl⟩))
/-! ### a new list by a choice -/
def fIfE (t : DT) (ra rb : DF) : DF := fun Xc δ Q => t Xc δ fun b δ1 => (b = true → ra Xc δ1 Q) ∧ (b = false → rb Xc δ1 Q)
section
variable {X : Cx} {T : List (Addr × Str)} {W : WX} {a b c e1 e2 : Expr} {pos : Pos}
theorem df_ifExp {t : DT} {ra rb : DF} (hc : PT X c (upT X.K T W t)) (ha : PE X a (upF X.K T W ra)) (hb : PE X b (upF X.K T W rb)) : PE X (.IfExp c a b pos) (upF X.K T W (fIfE t ra rb)) := PEi (pe_ifExp hc ha hb) fun σ H Q h => by
  obtain ⟨F, G, δ, Xc, Qd, R, hr, hx, k⟩ := h
  refine ⟨F, G, δ, Xc, _, R, hr, hx, fun G1 H1 b δ1 e1 R1 h1 => ?_⟩
  cases b with
  | true => exact iteT ⟨F, G1, δ1, Xc, Qd, R1, h1.1 rfl, hx.mono e1, fun G2 H2 p us xs δ2 e2 R2 a1 a2 a3 a4 a5 h2 => k G2 H2 p us xs δ2 (e1.trans e2) R2 a1 a2 a3 a4 a5 h2⟩
  | false => exact iteF ⟨F, G1, δ1, Xc, Qd, R1, h1.2 rfl, hx.mono e1, fun G2 H2 p us xs δ2 e2 R2 a1 a2 a3 a4 a5 h2 => k G2 H2 p us xs δ2 (e1.trans e2) R2 a1 a2 a3 a4 a5 h2⟩
/-- an address of ours that no slot holds, written -/
theorem Rel.pokeA {K : PySem.W.Frag} {F : Fm} {G H : Hp} {σ : L2.St} {δ : Ev} {p : Addr} {o o' : HO} (R : Rel K T F G H σ δ) (h1 : H p = some o') (n1 : ∀ ps, o' ≠ .tbl ps) (n2 : ∀ p q, o' ≠ LamX.CodeO p q) (h2 : G p = none) (h3 : p ∉ owns δ) (h4 : ¬ nT F.H0 p) (ho : ∀ ps, o ≠ .tbl ps) : Rel K T F G (upd H p o) σ δ where
  ex := Ex.mut R.ex h2
  sl := R.sl.mono (Ex.refl G) fun q hq o' _ a b => ⟨by rw [upd_ne (fun z => h3 (by rw [← z]; exact hq))]; exact a, b⟩
  sep := R.sep
  own := R.own
  keep := fun a o a1 a2 a3 => by
    rw [upd_ne (fun z => h4 ⟨o, by rw [← z]; exact a2, a3⟩)]
    exact R.keep a o a1 a2 a3
  tab := tabs_upd R.tab (by rw [h1]; intro ps z; exact n1 ps (Option.some.inj z)) (by rw [h1]; intro q z; exact n2 _ _ (Option.some.inj z))
  there := fun a a1 => nT_un ho fun _ => R.there a a1
  gh := R.gh
theorem dK_nt (kvs : List (Key × V)) : ∀ ps, HO.dK kvs ≠ .tbl ps := fun _ z => nomatch z
theorem dK_nc (kvs : List (Key × V)) : ∀ p q, HO.dK kvs ≠ LamX.CodeO p q := by
  intro p q z
  unfold LamX.CodeO at z
  cases z
/-- x = {k: v} -/
def sSetH1 (i : Nat) (rk rv : DE) : DS := fun Dd δ => rk Dd.xe δ fun k δ1 => rv Dd.xe δ1 fun v δ2 => keyOk k = true ∧ ∀ p, p ∉ owns δ2 → Dd.nx (δ2.set i (.h p [k] [v]))
theorem ds_setH1 {i : Nat} {x : Str} {pos' pd : Pos} {rk rv : DE} (hN : X.N.Nodup) (hi : X.N[i]? = some x) (hx : Loc X.env.scope x) (hk : PE X e1 (up X.K T W rk)) (hv : PE X e2 (up X.K T W rv)) (hs : swapsWith (.Dict [some e1] [e2] pd) (some (.Name x pos')) pos.line X.env = pure false := by rfl)
    (hf : X.fn x = true ∨ X.env.scope.names.lookup x = some .local := by first | exact .inl rfl | exact .inr rfl | assumption) : PS X (.Assign [.Name x pos'] (.Dict [some e1] [e2] pd) pos) (upS X.K T W (sSetH1 i rk rv)) := PSi (ps_set hN hi hx (pe_disp (pps_cons hk hv pps_nil) rfl rfl (by simp) (by simp)) hs hf) fun Dn σ H h => by
  obtain ⟨F, G, δ, Dd, R, hr, k⟩ := h
  refine fun p hp => ?_
  obtain ⟨z1, z2⟩ := R.fresh_own (nT_no hp)
  have R0 : Rel X.K T F G (upd H p (.dK [])) σ δ := R.temp hp
  have gp : G p = none := R.ex.back hp
  have hpp : (upd H p (HO.dK [])) p = some (.dK []) := upd_same
  have xk : ∀ {G1 : Hp}, Ex G G1 → XOk X.K T W (Fm.re G (upd H p (.dK [])) δ) G1 σ Dd.xe := fun {G1} e G' H' δ' C e' R' q => k.x G' H' δ' C (e.trans e') (R0.unbase R') q
  refine ⟨_, G, δ, Dd.xe, _, R0.rebase, hr, xk (Ex.refl G), fun G1 H1 u kd δ1 e1 R1 p1 q1 => ⟨_, G1, δ1, Dd.xe, _, R1, q1, xk e1, fun G2 H2 u2 vd δ2 e2 R2 p2 q2 => ?_⟩⟩
  obtain ⟨kk, q⟩ := q2
  have a1 : H2 p = some (.dK []) := R2.keep p _ z2 hpp (dK_nt [])
  have a2 : G2 p = none := by
    cases z : G2 p with
    | none => rfl
    | some o => exact absurd gp (R2.gh p z2 ⟨_, hpp, dK_nt []⟩ (by rw [z]; simp))
  have a3 : p ∉ owns δ2 := fun z => by
    rcases R2.own p z with y | y
    · exact z2 y
    · exact y ⟨_, hpp, dK_nt []⟩
  obtain ⟨key, rfl⟩ := keyOk_of kk
  have ew : u = kV key := by cases key <;> exact p1
  subst ew
  refine ⟨a1, [(key, u2)], rfl, by simp, ?_⟩
  have R3 := ((R0.unbase R2).pokeA (o := .dK [(key, u2)]) a1 (dK_nt []) (dK_nc []) a2 a3 z1 (dK_nt _)).seth (i := i) (ks := [keyD key]) (vs := [vd]) (us := [u2]) upd_same a2 ⟨_, rfl, rfl, rfl⟩ ⟨u2, [], rfl, p2, rfl⟩ a3 (.inr z1)
  exact k.nx G2 _ _ _ (e1.trans e2) R3 (q p a3)
end
end DL


set_option Elab.async false
set_option linter.all false
set_option maxRecDepth 100000
set_option autoImplicit true
namespace DL
open PySem PySem.Spec PyProof.Rows L2
/-- a def that makes lambdas, its first argument a list that may change -/
theorem fn_Bc {P : Program} {w : World} {K : PySem.W.Frag} {T : List (Addr × Str)} {mg : Str → Option Value} {base : Heap} {x qual : Str} {st : Stmt} {f : Addr} {N ps : List Str} {k n : Nat} {S : FSB} {rd : DS} {dV kV doc pm cdv ct oc : Value} {an od : Option Addr} {osl : Array (Option Value)}
    (lk : K.lookup f = some ⟨oc, od, .func (PySem.W.fnOf x qual (defArgs st) (defBody st) (defScope st) dV kV doc pm an cdv ct), osl⟩) (hcd : PySem.W.codeIn K cdv qual = true) (Sc : FnScope N ps (defScope st)) (hn : ps.length = n)
    (hterm : ∀ (A : Around) (outer : List Env) (s : Shared) (H : Hp) (E : XK), Room k (A.deeper (envOfC qual (defScope st) s.heap.objs.size f cdv)) →
      PSs (cxOf (L2.CX P w) P w K mg base N qual (defScope st) f cdv A outer s H E) (defBody st) (upS K T (fun cls d _ H => E cls d H) rd))
    (hd : ∀ p xs ds Qd Ed, ds.length + 1 = n → S xs ds Qd Ed → rd (endB p Qd Ed) (.o p xs :: argsD (N.length - 1) ds)) : FnOk P w K mg base (L2.CX P w) (k + 1) f (PySem.W.fnOf x qual (defArgs st) (defBody st) (defScope st) dV kV doc pm an cdv ct) ps (spB K T n S) := by
  refine fn_of lk hcd Sc (fun vs H Q E h => ?_) (fun A outer s H vs Q E hr h => ⟨_, hterm A outer s H E hr, ?_⟩)
  · obtain ⟨G, p, us, xs, vs', ds, Qd, Ed, rfl, h1, _, h2, _, _, _, h3, _⟩ := h
    rw [List.length_cons, h3.length, h1, hn]
  · obtain ⟨G, p, us, xs, vs', ds, Qd, Ed, rfl, h1, tb, h2, g1, g2, g3, h3, h4, h5, h6⟩ := h
    have hl := h3.length
    have oo : owns (.o p xs :: argsD (N.length - 1) ds) = [p] := by
      show p :: owns (argsD (N.length - 1) ds) = [p]
      rw [owns_args]
    have fin : ∀ {G' H' : Hp} {σ' : L2.St} {δ' : Ev} {xs' : List D}, Ex G G' → Rel K T ⟨H, G, [p]⟩ G' H' σ' δ' → δ'[0]? = some (.o p xs') → ∃ us', Post T G H [p] G' H' ∧ G' p = none ∧ H' p = some (.lst us') ∧ RpL K G' xs' us' := fun {G' H' σ' δ' xs'} e R h0 => by
      obtain ⟨_, a1, us', a2, a3⟩ := R.oget h0
      exact ⟨us', ⟨e, R.ex, fun a o h1 h2 h3 => R.keep a o h1 h2 h3, R.tab, R.there, R.gh⟩, a1, a2, a3⟩
    refine ⟨⟨H, G, [p]⟩, G, .o p xs :: argsD (N.length - 1) ds, endB p Qd Ed, ⟨h2, ?_, by rw [oo]; exact List.nodup_cons.mpr ⟨(fun z => nomatch z), List.nodup_nil⟩, (fun q hq => by rw [oo] at hq; exact .inl hq), fun a o _ h _ => h, fun a h => h, fun a _ _ h => h, tb⟩, hd p xs ds Qd Ed h1 h4, ⟨fun G' H' σ' δ' e R q => ?_, fun G' H' σ' δ' v rv e R hv q => ?_, fun _ _ _ _ _ _ z => z.elim, fun _ _ _ _ _ _ z => z.elim, fun G' H' σ' δ' C e R q => ?_⟩⟩
    · unfold L2.start argsD
      rw [List.map_cons, List.length_cons, hl, Nat.sub_sub, Nat.add_comm 1 ds.length]
      exact .cons ⟨rfl, g1, us, g2, g3⟩ ((start_sl (N := N) h3).app (SlL.us _))
    · obtain ⟨xs', h0, q⟩ := q
      obtain ⟨us', a1, a2, a3, a4⟩ := fin e R h0
      exact h5 G' H' _ (.d .non) xs' us' a1 a2 a3 a4 rfl q
    · obtain ⟨xs', h0, hne, q⟩ := q
      obtain ⟨us', a1, a2, a3, a4⟩ := fin e R h0
      refine h5 G' H' v rv.out xs' us' a1 a2 a3 a4 ?_ q
      cases rv with
      | d x => exact hv
      | o r ys =>
        obtain ⟨rfl, b1, b2, us2, b3, b4⟩ := hv
        rcases b2 with b2 | b2
        · exact absurd (List.mem_singleton.mp b2) (hne r ys rfl)
        · exact ⟨r, us2, rfl, b2, b1, b3, b4⟩
    · obtain ⟨xs', h0, q⟩ := q
      obtain ⟨us', a1, a2, a3, a4⟩ := fin e R h0
      exact h6 G' H' C xs' us' a1 a2 a3 a4 q
/-- an assignment of a constant ahead of a teller's try -/
theorem tel_pre {Z : Cx} {x : Str} {e : Expr} {rest : List Stmt} {D : Ends} {σ : L2.St} {H : Hp} {v : V} {i : Nat} {p1 p2 : Pos} (hN : Z.N.Nodup) (hi : Z.N[i]? = some x) (hx : Loc Z.env.scope x) (he : PE Z e (tC v)) (h : ∃ t, PSs Z rest t ∧ t D (σ.set i (some v)) H)
    (hs : swapsWith e (some (.Name x p1)) p2.line Z.env = pure false := by rfl) (hf : Z.fn x = true ∨ Z.env.scope.names.lookup x = some .local := by first | exact .inl rfl | exact .inr rfl) : ∃ t, PSs Z (.Assign [.Name x p1] e p2 :: rest) t ∧ t D σ H := by
  obtain ⟨t, h1, h2⟩ := h
  exact ⟨_, pss_cons (ps_set hN hi hx he hs hf) h1, h2⟩
end DL


set_option Elab.async false
set_option linter.all false
set_option maxRecDepth 100000
namespace DL
open PySem PySem.Spec PyProof.Rows L2
section
variable {Q : D → Prop} {ks vs xs ys : List D} {x y : Str} {i j : Int} {b : Bool}
theorem isB_int_d : isB "int" (.dic ks vs) = false := rfl
theorem isB_bool_d : isB "bool" (.dic ks vs) = false := rfl
theorem isB_tuple_d : isB "tuple" (.dic ks vs) = false := rfl
theorem isB_list_d : isB "list" (.dic ks vs) = false := rfl
theorem isB_str_d : isB "str" (.dic ks vs) = false := rfl
theorem isB_dict_d : isB "dict" (.dic ks vs) = true := rfl
theorem isB_int_q : isB "int" (.sq xs) = false := rfl
theorem isB_bool_q : isB "bool" (.sq xs) = false := rfl
theorem isB_tuple_q : isB "tuple" (.sq xs) = false := rfl
theorem isB_list_q : isB "list" (.sq xs) = true := rfl
theorem isB_str_q : isB "str" (.sq xs) = false := rfl
theorem isB_dict_q : isB "dict" (.sq xs) = false := rfl
theorem noq_d : noq (.dic ks vs) = true := rfl
theorem r_is_dn : fIs (.dic ks vs) .non Q = Q (.bl false) := rfl
theorem r_isnt_dn : fIsnt (.dic ks vs) .non Q = Q (.bl (!false)) := rfl
theorem isnt_any (L : List String) (d : D) : (L.any fun Y => isB Y d) = L.any fun Y => isB Y d := rfl
end
/-- all of a comprehension's turns give the same -/
theorem lc_mapIx {δ1 : Ev} {vs : List Nat} {xs : List D} {g : DG} {t : DT} {re : DE} {Q : List D → Ev → Prop} (f : Nat → D → D) (ht : t = tYesD) (hz : xs.length ≤ sizeLine)
    (h : ∀ (i : Nat) (x : D) (P : D → Ev → Prop), xs[i]? = some x → (∀ δ5, wipeD δ5 vs = wipeD δ1 vs → P (f i x) δ5) → g x (wipeD δ1 vs) fun δ3 => re (fun _ _ => False) δ3 P) (hq : Q (xs.mapIdx f) (backD δ1 (wipeD δ1 vs) vs)) : lcG xs g t re vs δ1 Q := by
  refine lc_ys2 (xs.mapIdx f) ht (by simp) hz (fun i x y P hx hy hP => h i x P hx ?_) hq
  rw [List.getElem?_mapIdx, hx] at hy
  rw [show y = f i x from (Option.some.inj hy).symm] at hP
  exact hP
theorem lc_map {δ1 : Ev} {vs : List Nat} {xs : List D} {g : DG} {t : DT} {re : DE} {Q : List D → Ev → Prop} (f : D → D) (ht : t = tYesD) (hz : xs.length ≤ sizeLine)
    (h : ∀ (x : D) (P : D → Ev → Prop), x ∈ xs → (∀ δ5, wipeD δ5 vs = wipeD δ1 vs → P (f x) δ5) → g x (wipeD δ1 vs) fun δ3 => re (fun _ _ => False) δ3 P) (hq : Q (xs.map f) (backD δ1 (wipeD δ1 vs) vs)) : lcG xs g t re vs δ1 Q := by
  refine lc_ys2 (xs.map f) ht (by simp) hz (fun i x y P hx hy hP => h x P (List.mem_of_getElem? hx) ?_) hq
  rw [List.getElem?_map, hx] at hy
  rw [show y = f x from (Option.some.inj hy).symm] at hP
  exact hP
theorem mem_zip_self : ∀ {xs : List D} {z : D}, z ∈ zipD xs xs → ∃ a ∈ xs, z = .tup [a, a]
  | [], z, h => by simp [zipD] at h
  | a :: xs, z, h => by
    unfold zipD at h
    rw [List.zipWith_cons_cons] at h
    rcases List.mem_cons.mp h with h | h
    · exact ⟨a, List.mem_cons_self, h⟩
    · obtain ⟨b, h1, h2⟩ := mem_zip_self (xs := xs) h
      exact ⟨b, List.mem_cons_of_mem _ h1, h2⟩
theorem isE_r {K : PySem.W.Frag} {C c a : Addr} {b : Bool} {Q : D → Prop} (E : ExcC K C) (h : PySem.W.kitOne K (.ref C) (.ref c) = some b) (q : Q (.bl b)) : gIsE K (.ref C) none a [.opq (.ref a), .opq (.ref c)] Q := ⟨rfl, rfl, C, .ref c, b, rfl, E, fun _ h => h, h, q⟩
theorem isE_t {K : PySem.W.Frag} {C a : Addr} {Y : String} {b : Bool} {Q : D → Prop} (E : ExcC K C) (h : PySem.W.kitOne K (.ref C) (.type Y) = some b) (q : Q (.bl b)) : gIsE K (.ref C) none a [.opq (.ref a), .opq (.ty Y)] Q := ⟨rfl, rfl, C, .type Y, b, rfl, E, fun u h => by cases h; rfl, h, q⟩
theorem mulM {i j : Int} (h0 : 0 ≤ i) (h1 : i ≤ 1000000000000000000) : MulOk i j := mulL (by omega) (by omega)
theorem mulM2 {i j : Int} (h0 : 0 ≤ j) (h1 : j ≤ 1000000000000000000) : MulOk i j := mulR (by omega) (by omega)
theorem divM {i j : Int} (h : 1 ≤ j) (hb : j ≤ 1000000000000000000) : DivOk i j := divOk_of h (big_of (by omega) hb)
/-- a tuple of ints at a place -/
theorem at_ints {l : List Int} {i : Nat} (h : i < l.length) : atI (l.map D.int) (i : Int) = some (.int l[i]) := atI_nat (by rw [List.getElem?_map, List.getElem?_eq_getElem h]; rfl)
theorem eqv_ne_bool {x y : D} : (!PyData.eqv x.toPy y.toPy) = true ↔ PyData.eqv x.toPy y.toPy = false := by simp
end DL


set_option Elab.async false
set_option linter.all false
set_option maxRecDepth 100000
namespace DL
open PySem PySem.Spec PyProof.Rows L2
theorem for_rng {lo : Int} {n : Nat} {g : DG} {body : DS} {Dd : DEnds} {δ : Ev} (I : Nat → Ev → Prop) (h0 : I 0 δ) (hs : ∀ (i : Nat) (δ1 : Ev), i < n → I i δ1 → g (.int (lo + (i : Int))) δ1 fun δ2 => body { Dd with nx := I (i + 1), ct := I (i + 1), bk := Dd.nx } δ2) (hd : ∀ δ1, I n δ1 → Dd.nx δ1) : forG (rngD lo n) g body Dd δ :=
  ⟨I, h0, fun i x δ2 hx hi => by
    obtain ⟨h1, rfl⟩ := rngD_get hx
    exact hs i δ2 h1 hi, fun δ2 h => hd δ2 (by rw [rngD_len] at h; exact h)⟩
theorem for_lst {xs : List D} {g : DG} {body : DS} {Dd : DEnds} {δ : Ev} (I : Nat → Ev → Prop) (h0 : I 0 δ) (hs : ∀ (i : Nat) (x : D) (δ1 : Ev), xs[i]? = some x → I i δ1 → g x δ1 fun δ2 => body { Dd with nx := I (i + 1), ct := I (i + 1), bk := Dd.nx } δ2) (hd : ∀ δ1, I xs.length δ1 → Dd.nx δ1) : forG xs g body Dd δ := ⟨I, h0, hs, hd⟩
theorem rngD_mem {lo : Int} {n : Nat} {x : D} (h : x ∈ rngD lo n) : ∃ i : Nat, i < n ∧ x = .int (lo + (i : Int)) := by
  unfold rngD at h
  obtain ⟨i, h1, rfl⟩ := List.mem_map.mp h
  exact ⟨i, List.mem_range.mp h1, rfl⟩
/-- a comprehension whose turns change what is drawn from; the items by their places -/
theorem lc_inv {δ1 : Ev} {vs : List Nat} {xs : List D} {g : DG} {t : DT} {re : DE} {Q : List D → Ev → Prop} (f : Nat → D) (J : Nat → Ev → Prop) (ht : t = tYesD) (hz : xs.length ≤ sizeLine) (h0 : J 0 (wipeD δ1 vs))
    (hs : ∀ (i : Nat) (x : D) (δ : Ev) (P : D → Ev → Prop), xs[i]? = some x → J i δ → (∀ δ5, J (i + 1) (wipeD δ5 vs) → P (f i) δ5) → g x δ fun δ3 => re (fun _ _ => False) δ3 P) (hq : ∀ δ, J xs.length δ → Q ((List.range xs.length).map f) (backD δ1 δ vs)) : lcG xs g t re vs δ1 Q := by
  subst ht
  refine ⟨fun i acc δ => acc = (List.range i).map f ∧ J i δ, ⟨rfl, h0⟩, ?_, ?_⟩
  · rintro i x acc δ hx ⟨rfl, hj⟩
    have hi : i < xs.length := (List.getElem?_eq_some_iff.mp hx).1
    have := hs i x δ (fun y δ5 => ((List.range i).map f).length < sizeLine ∧ (List.range i).map f ++ [y] = (List.range (i + 1)).map f ∧ J (i + 1) (wipeD δ5 vs)) hx hj fun δ5 h5 => ⟨by rw [List.length_map, List.length_range]; omega, by rw [List.range_succ, List.map_append]; rfl, h5⟩
    have e : (fun δ3 => re (fun _ _ => False) δ3 fun y δ5 => ((List.range i).map f).length < sizeLine ∧ (List.range i).map f ++ [y] = (List.range (i + 1)).map f ∧ J (i + 1) (wipeD δ5 vs)) =
        fun δ3 => tYesD (fun _ _ => False) δ3 fun b δ4 => (b = true → re (fun _ _ => False) δ4 fun y δ5 => ((List.range i).map f).length < sizeLine ∧ (List.range i).map f ++ [y] = (List.range (i + 1)).map f ∧ J (i + 1) (wipeD δ5 vs)) ∧ (b = false → (List.range i).map f = (List.range (i + 1)).map f ∧ J (i + 1) (wipeD δ4 vs)) := by
      funext δ3
      exact propext ⟨fun h => ⟨fun _ => h, fun z => nomatch z⟩, fun h => h.1 rfl⟩
    rw [e] at this
    exact this
  · rintro acc δ ⟨rfl, hj⟩
    exact hq δ hj
theorem all_true (n : Nat) : ∃ bs : List Bool, ((List.range n).map fun _ => D.bl true) = bs.map D.bl ∧ bs.all id = true := ⟨(List.range n).map fun _ => true, by rw [List.map_map]; rfl, by rw [List.all_map]; simp⟩
end DL


set_option Elab.async false
set_option linter.all false
set_option maxRecDepth 100000
set_option autoImplicit true
namespace DL
open PySem PySem.Spec PyProof.Rows L2
/-- a told lambda whose body changes owned lists: they stay owned -/
def dLamO (fe : Addr → D → Prop) (fr : D) (rb : DE) : DE := fun _ δ Q => rb (fun C δ' => ∃ y, fe C y ∧ flatD y = true ∧ Q y δ') δ (fun _ δ' => flatD fr = true ∧ Q fr δ')
theorem up_lamO {K : PySem.W.Frag} {T : List (Addr × Str)} {W : WX} {fe : Addr → D → Prop} {fr : D} {rb : DE} : ∀ σ H Q, up K T W (dLamO fe fr rb) σ H Q → LamX.tLam T (TTd K T fe fr) (fun E => up K T (fun cls d _ H => E cls d H) rb) σ H Q := fun σ H Q h => by
  obtain ⟨F, G, δ, Xc, Qd, R, hr, hx, k⟩ := h
  refine ⟨R.tab.1, fun H1 e1 t1 E1 Q1 hE hQ => ?_⟩
  have R1 := R.extN e1 t1
  have fin : ∀ {G' H' : Hp} {δ' : Ev} {y : D}, Ex G G' → Rel K T F G' H' σ δ' → flatD y = true → Qd y δ' → ∀ v H'', LamX.ExtN H' H'' → LamX.Tabs T H'' → Rp K (fun _ => none) y v → Q v H'' := fun {G' H' δ' y} e R' fy q v H'' e2 t2 pv =>
    k G' H'' v y δ' e (R'.extN e2 t2) (flat_rp fy pv) q
  exact ⟨F, G, δ, _, _, R1, hr, fun G' H' δ' C e R' ⟨y, y1, y2, y3⟩ => hE _ _ _ ⟨R'.tab.1, C, y, rfl, rfl, y1, y2, fin e R' y2 y3⟩, fun G' H' v d δ' e R' p q => hQ _ _ ⟨R'.tab.1, q.1, fin e R' q.1 q.2⟩⟩
theorem dx_lamO {X : Cx} {T : List (Addr × Str)} {W : WX} {fe : Addr → D → Prop} {fr : D} {rb : DE} {x q : Str} {c P : Addr} {k : Nat} {params : Arguments} {body : Expr} {scope : Scope} {p lpos pos : Pos} (D : Tel X.prog X.w X.K T X.mg X.base x q fe fr)
    (TB : LamX.TabB X.base X.mg c P) (hcode : X.env.code = .ref c) (hr : Room (k + 2) X.A)
    (hbody : ∀ (A : Around) (outer : List Env) (s : Shared) (H : Hp) (E : XK) (f c' : Addr), Room k (A.deeper (LamX.lamEnv X scope s.heap.objs.size f c')) → PE (LamX.lamCx X A outer s H E scope f c') body (up X.K T (fun cls d _ H => E cls d H) rb))
    (hmT : (P, q) ∈ T) (hu : ∀ p ∈ T, p.1 = P → p.2 = q) (hq : X.env.qual ++ "<lambda>" = q := by rfl) (L : LamX.LamS X.env.scope scope := by exact LamX.lamS_by (by decide +kernel)) (hg : Gl X x := by rfl)
    (hdef : defaultsOf params X.env = ([], []) := by rfl)
    (hbind : ∀ (q : Str) (cl : List (Str × Addr)) (pm cv ctv : Value), bindArgs (PySem.W.kla_fn "<lambda>" q params body scope cl pm cv ctv) ⟨[], []⟩ = pure [] := by intros; rfl)
    (hdb : (x == ("__debug__" : Str)) = false := by decide) : PE X (.Call (.Name x p) [.Lambda params body scope lpos] [] pos) (up X.K T W (dLamO fe fr rb)) := by
  obtain ⟨g, a, pg, bg, sg, dV, kV, doc, pm, cdv, ct, oc, an, od, osl, Ng, h1, h2, h3, h4, h5, h6, h7, h8, h9, h10, h11⟩ := D
  subst hq
  exact PEi (LamX.pe_lamcall (t := fun E => up X.K T (fun cls d _ H => E cls d H) rb) hg h1 h2 h3 h4 h5 h6 h7 h8 (h11 X k rfl rfl rfl rfl rfl hr) TB hcode hmT hu hr L hdef hbind hbody hdb h9 h10) up_lamO
theorem lamO_y {fe : Addr → D → Prop} {fr : D} {rb : DE} {Xc : XC} {δ : Ev} {Q : D → Ev → Prop} (h : rb (fun C δ' => ∃ y, fe C y ∧ flatD y = true ∧ Q y δ') δ (fun _ δ' => flatD fr = true ∧ Q fr δ')) : dLamO fe fr rb Xc δ Q := h
end DL


set_option Elab.async false
set_option linter.all false
set_option maxRecDepth 100000
set_option autoImplicit true
namespace DL
open PySem PySem.Spec PyProof.Rows L2
/-! ### dict comprehensions -/
section
variable {X : Cx}
/-- x = {k: v for ..}, the name used within the block's own making -/
theorem ps_setDc {i : Nat} {y : Str} {py : Pos} {kx vx tg iter : Expr} {ifs : List Expr} {scope : Scope} {own : List (Str × Nat)} {pos spos : Pos} {wi : TI} {g : TG} {tt : TT} {tk tv : TE} (hc : X.calm = true) (hN : X.N.Nodup) (hy : X.N[i]? = some y) (hyl : X.env.scope.names.lookup y = some .local)
    (hsw : swapsWith (.DictComp kx vx [⟨tg, iter, ifs, 0⟩] scope pos) (some (.Name y py)) spos.line X.env = pure true) (hi : PI X tg iter wi) (ok : BlkOk X.N X.env.scope scope own)
    (hg : ∀ (s : Shared) (H : Hp) (C : Addr) (cl : List (Str × Addr)) (fp : List Addr), PG (X.blk s H scope (compEnvC scope cl C X.env) fp) tg g) (ht : ∀ (s : Shared) (H : Hp) (C : Addr) (cl : List (Str × Addr)) (fp : List Addr), PTs (X.blk s H scope (compEnvC scope cl C X.env) fp) ifs tt)
    (hk : ∀ (s : Shared) (H : Hp) (C : Addr) (cl : List (Str × Addr)) (fp : List Addr), PE (X.blk s H scope (compEnvC scope cl C X.env) fp) kx tk) (he : ∀ (s : Shared) (H : Hp) (C : Addr) (cl : List (Str × Addr)) (fp : List Addr), PE (X.blk s H scope (compEnvC scope cl C X.env) fp) vx tv)
    (hs : ∀ x, foldedSetIterable iter X.env x = pure x := by intro _; rfl) : PS X (.Assign [.Name y py] (.DictComp kx vx [⟨tg, iter, ifs, 0⟩] scope pos) spos) (tAsg (tDc wi g tt tk tv (own.map (·.2))) (gName i)) := by
  refine ⟨fun pins s σ H D I h => ?_⟩
  rw [exec_Assign_Name_used _ _ _ _ hsw]
  refine wpAny_bind (wpAny_standAt (wpAny_bind ?_))
  show wpAny _ X.A (do let _ ← comprehension (.DictComp kx vx [⟨tg, iter, ifs, 0⟩] scope pos) scope X.env (firstIterPos [⟨tg, iter, ifs, 0⟩] pos) newDict false (eval iter X.env) (some (assign (.Name y py) X.env))) _ _ s
  have h : tDc wi g tt tk tv (own.map (·.2)) σ H (fun x H1 => gName i x σ H1 D.nx) := h
  refine wpAny_bind (thn (dc_core (Qf := fun _ s' => SP X pins D .next s') hc hN I hi ok hg ht hk he hs h fun L C s' m H' I' q hn f => ?_) fun _ s' hq => wpAny_pure (wpAny_pure hq))
  show wpAny _ _ (assign (.Name y py) X.env (.ref L)) _ _ _
  refine wpAny_assign_Name (store_ok2 (v := V.ref L) I' hN hy (.inl hyl) rfl (fun s2 I2 ⟨a, sb, ha⟩ => ?_) (.inr hyl))
  obtain ⟨f0, f1, f2, f3, f4, f5⟩ := f
  have nC : C ≠ a := ha.elim (fun z => by rw [z]; exact f1) fun z e => f4 y a z e.symm
  exact ⟨m, hn.sameBut sb nC, fun h3 sb3 => ⟨_, H', I2.turned (t' := s2.toks) (fun b o hb e => (sb3.2 b hb).trans e) f0 f1 f3 f4 f5, q⟩⟩
theorem swd_true {kx vx : Expr} {gs : List Comprehension} {scope : Scope} {pos py : Pos} {y : Str} {l : Nat} {env : Env} (hk : env.scope.kind = .function) (hy : env.scope.names.lookup y = some .local) (hl : (py.line == pos.line) = true)
    (ha : (scope.names.any fun (n, k) => n == y && (k == .local || k == .cell)) = false) : swapsWith (.DictComp kx vx gs scope pos) (some (.Name y py)) l env = pure true := by
  have ky : env.kindOf y = some .local := hy
  have hb : env.blockKind = .function := by unfold Env.blockKind; rw [hk]; rfl
  unfold swapsWith
  simp only [hb, ky, ha, Expr.pos, hl]
  rfl
end
def dcG (xs : List D) (g : DG) (t : DT) (rk rv : DE) (vs : List Nat) (δ1 : Ev) (Q : List D → List D → Ev → Prop) : Prop := ∃ I : Nat → List D → List D → Ev → Prop, I 0 [] [] (wipeD δ1 vs) ∧
  (∀ i x ks ws δ2, xs[i]? = some x → I i ks ws δ2 → g x δ2 fun δ3 => t (fun _ _ => False) δ3 fun b δ4 => (b = true → rk (fun _ _ => False) δ4 fun k δ5 => rv (fun _ _ => False) δ5 fun v δ6 => keyOk k = true ∧ ks.length < sizeLine ∧ I (i + 1) (putKs ks k) (putVs ks ws k v) (wipeD δ6 vs)) ∧
    (b = false → I (i + 1) ks ws (wipeD δ4 vs))) ∧
  ∀ ks ws δ2, I xs.length ks ws δ2 → Q ks ws (backD δ1 δ2 vs)
/-- x = {k: v for ..} -/
def sSetDc (i : Nat) (ri : DF) (g : DG) (t : DT) (rk rv : DE) (vs : List Nat) : DS := fun Dd δ => ri Dd.xe δ fun xs δ1 => dcG xs g t rk rv vs δ1 fun ks ws δ2 => ∀ p, p ∉ owns δ2 → Dd.nx (δ2.set i (.h p ks ws))
section
variable {X : Cx} {T : List (Addr × Str)} {W : WX}
theorem up_dc {ii : Nat} {ri : DF} {g : DG} {t : DT} {rk rv : DE} {vs : List Nat} (nd : vs.Nodup) : ∀ Dn σ H, upS X.K T W (sSetDc ii ri g t rk rv vs) Dn σ H →
    tAsg (tDc (upI X.K T W ri) (upG X.K T vs g) (upT X.K T (fun _ _ _ _ => False) t) (up X.K T (fun _ _ _ _ => False) rk) (up X.K T (fun _ _ _ _ => False) rv) vs) (gName ii) Dn σ H := fun Dn σ H h => by
  obtain ⟨F, G, δ, Dd, R, hr, k⟩ := h
  refine ⟨F, G, δ, Dd.xe, _, R, hr, k.x, fun G1 H1 xs J δ1 e1 R1 hJ ⟨I, i0, is, id⟩ Dl hD => ?_⟩
  obtain ⟨z1, z2⟩ := R1.fresh_own (nT_no hD)
  refine ⟨fun i m H' => m = xs.length - i ∧ i ≤ xs.length ∧ ∃ G' δ' ks ws kvs, Ex G1 G' ∧ Rel X.K T F G' H' (wipe σ vs) δ' ∧ G' Dl = none ∧ H' Dl = some (.dK kvs) ∧ ks = kvs.map (fun p => keyD p.1) ∧ RpL X.K G' ws (kvs.map (·.2)) ∧ Dl ∉ owns δ' ∧ I i ks ws δ',
    ⟨xs.length, by simp, Nat.zero_le _, G1, wipeD δ1 vs, [], [], [], Ex.refl G1, (R1.temp hD).wipe vs, R1.ex.back hD, upd_same, rfl, rfl, ?_, i0⟩, ?_⟩
  · have sub : ∀ vs : List Nat, (owns (wipeD δ1 vs)).Sublist (owns δ1) := fun vs => by
      induction vs with
      | nil => exact List.Sublist.refl _
      | cons v vs ih => exact (owns_set_none rfl _ v).trans ih
    exact fun z => z2 ((sub vs).subset z)
  rintro i m H2 ⟨rfl, hi, G2, δ2, ks, ws, kvs, e2, R2, gD, hD2, hks, pa, nD, h2⟩
  obtain ⟨s1, s2⟩ := hJ F G2 H2 _ δ2 i e2 R2
  by_cases hlt : i < xs.length
  · obtain ⟨g1, _⟩ := s2 xs[i] (List.getElem?_eq_getElem hlt)
    refine .inr ⟨g1, fun H' => ∃ G' δ' ks ws kvs, Ex G1 G' ∧ Rel X.K T F G' H' (wipe σ vs) δ' ∧ G' Dl = none ∧ H' Dl = some (.dK kvs) ∧ ks = kvs.map (fun p => keyD p.1) ∧ RpL X.K G' ws (kvs.map (·.2)) ∧ Dl ∉ owns δ' ∧ I (i + 1) ks ws δ', fun H' q => ⟨xs.length - (i + 1), by omega, rfl, hlt, q⟩, fun v H3 hy => ?_⟩
    -- the frame is taken at the turn's beginning
    obtain ⟨_, g2⟩ := (hJ (Fm.re G2 H2 δ2) G2 H2 _ δ2 i e2 R2.rebase).2 xs[i] (List.getElem?_eq_getElem hlt)
    obtain ⟨G3, e3, R3, p3⟩ := g2 v H3 hy
    have stay : ∀ {G' H' σ' δ'}, Rel X.K T (Fm.re G2 H2 δ2) G' H' σ' δ' → G' Dl = none ∧ H' Dl = some (.dK kvs) ∧ Dl ∉ owns δ' := fun {G' H' σ' δ'} R' => by
      refine ⟨?_, R'.keep Dl _ nD hD2 (dK_nt kvs), fun z => ?_⟩
      · cases q : G' Dl with
        | none => rfl
        | some o => exact absurd gD (R'.gh Dl nD ⟨_, hD2, dK_nt kvs⟩ (by rw [q]; simp))
      · rcases R'.own Dl z with q | q
        · exact nD q
        · exact q ⟨_, hD2, dK_nt kvs⟩
    refine ⟨_, G3, δ2, _, _, R3, p3, is i _ ks ws δ2 (List.getElem?_eq_getElem hlt) h2, fun σ4 δ4 R4 hw q4 => ⟨hw.trans (wipe_wipe vs), ?_⟩⟩
    refine ⟨_, G3, δ4, _, _, R4, q4, (fun _ _ _ _ _ _ z => z.elim), fun G5 H5 b δ5 e5 R5 q5 => ?_⟩
    have ws' : ∀ {δ' : Ev} {G' H' : Hp}, Rel X.K T (Fm.re G2 H2 δ2) G' H' σ4 δ' → Rel X.K T (Fm.re G2 H2 δ2) G' H' (wipe σ vs) (wipeD δ' vs) := fun {δ' G' H'} R' => by
      have q := R'.wipe vs
      rw [hw.trans (wipe_wipe vs)] at q
      exact q
    cases b with
    | true =>
      refine iteT ⟨_, G5, δ5, _, _, R5, q5.1 rfl, (fun _ _ _ _ _ _ z => z.elim), fun G6 H6 y d δ6 e6 R6 p6 q6 => ⟨_, G6, δ6, _, _, R6, q6, (fun _ _ _ _ _ _ z => z.elim), fun G7 H7 y2 d2 δ7 e7 R7 p7 q7 => ?_⟩⟩
      obtain ⟨a1, a2, a3⟩ := stay (ws' R7)
      obtain ⟨kk, hz, q7⟩ := q7
      obtain ⟨key, rfl⟩ := keyOk_of kk
      have ew : y = kV key := by cases key <;> exact p6
      subst ew hks
      rw [List.length_map] at hz
      obtain ⟨b1, b2⟩ := put_val (k := key) (RpL.mono (((e3.trans e5).trans e6).trans e7) _ _ pa) p7
      obtain ⟨kvs', c1, c2, c3⟩ := b1
      cases c1
      exact ⟨kvs, key, rfl, (stay R7).2.1, hz, G7, wipeD δ7 vs, _, _, putK kvs key y2, (((e2.trans e3).trans e5).trans e6).trans e7, (R2.unbase (ws' R7)).pokeA a2 (dK_nt _) (dK_nc _) a1 a3 z1 (dK_nt _), a1, upd_same, c2, b2, a3, q7⟩
    | false =>
      obtain ⟨a1, a2, a3⟩ := stay (ws' R5)
      exact iteF ⟨G5, wipeD δ5 vs, ks, ws, kvs, (e2.trans e3).trans e5, R2.unbase (ws' R5), a1, a2, hks, RpL.mono (e3.trans e5) _ _ pa, a3, q5.2 rfl⟩
  · have e : i = xs.length := by omega
    subst e hks
    have sub : ∀ vs : List Nat, (owns (backD δ1 δ2 vs)).Sublist (owns δ2) := fun vs => by
      induction vs with
      | nil => exact List.Sublist.refl _
      | cons v vs ih =>
        refine (owns_set_none ?_ _ v).trans ih
        cases q : δ1[v]? with
        | none => rfl
        | some s => cases s <;> rfl
    have nb : Dl ∉ owns (backD δ1 δ2 vs) := fun z => nD ((sub vs).subset z)
    refine .inl ⟨s1 (Nat.le_refl _), k.nx G2 H2 _ _ (e1.trans e2) ((R1.back e2 vs δ2 nd R2).seth hD2 gD ⟨kvs, rfl, rfl, rfl⟩ pa nb (.inr z1)) (id _ _ δ2 h2 Dl nb)⟩
theorem ds_setDc {i : Nat} {y : Str} {py : Pos} {kx vx tg iter : Expr} {ifs : List Expr} {scope : Scope} {own : List (Str × Nat)} {pos spos : Pos} {ri : DF} {g : DG} {t : DT} {rk rv : DE} (hc : X.calm = true) (hN : X.N.Nodup) (hy : X.N[i]? = some y) (hyl : X.env.scope.names.lookup y = some .local)
    (hsw : swapsWith (.DictComp kx vx [⟨tg, iter, ifs, 0⟩] scope pos) (some (.Name y py)) spos.line X.env = pure true) (nd : (own.map (·.2)).Nodup) (hi : PI X tg iter (upI X.K T W ri)) (ok : BlkOk X.N X.env.scope scope own)
    (hg : ∀ (s : Shared) (H : Hp) (C : Addr) (cl : List (Str × Addr)) (fp : List Addr), PG (X.blk s H scope (compEnvC scope cl C X.env) fp) tg (upG X.K T (own.map (·.2)) g))
    (ht : ∀ (s : Shared) (H : Hp) (C : Addr) (cl : List (Str × Addr)) (fp : List Addr), PTs (X.blk s H scope (compEnvC scope cl C X.env) fp) ifs (upT X.K T (fun _ _ _ _ => False) t))
    (hk : ∀ (s : Shared) (H : Hp) (C : Addr) (cl : List (Str × Addr)) (fp : List Addr), PE (X.blk s H scope (compEnvC scope cl C X.env) fp) kx (up X.K T (fun _ _ _ _ => False) rk))
    (he : ∀ (s : Shared) (H : Hp) (C : Addr) (cl : List (Str × Addr)) (fp : List Addr), PE (X.blk s H scope (compEnvC scope cl C X.env) fp) vx (up X.K T (fun _ _ _ _ => False) rv)) (hs : ∀ x, foldedSetIterable iter X.env x = pure x := by intro _; rfl) :
    PS X (.Assign [.Name y py] (.DictComp kx vx [⟨tg, iter, ifs, 0⟩] scope pos) spos) (upS X.K T W (sSetDc i ri g t rk rv (own.map (·.2)))) := PSi (ps_setDc hc hN hy hyl hsw hi ok hg ht hk he hs) (up_dc nd)
/-- .. the name a cell -/
theorem ds_setDcV {i : Nat} {y : Str} {py : Pos} {kx vx tg iter : Expr} {ifs : List Expr} {scope : Scope} {own : List (Str × Nat)} {pos spos : Pos} {ri : DF} {g : DG} {t : DT} {rk rv : DE} (hc : X.calm = true) (hN : X.N.Nodup) (hy : X.N[i]? = some y) (hx : Loc X.env.scope y) (nd : (own.map (·.2)).Nodup) (hi : PI X tg iter (upI X.K T W ri)) (ok : BlkOk X.N X.env.scope scope own)
    (hg : ∀ (s : Shared) (H : Hp) (C : Addr) (cl : List (Str × Addr)) (fp : List Addr), PG (X.blk s H scope (compEnvC scope cl C X.env) fp) tg (upG X.K T (own.map (·.2)) g))
    (ht : ∀ (s : Shared) (H : Hp) (C : Addr) (cl : List (Str × Addr)) (fp : List Addr), PTs (X.blk s H scope (compEnvC scope cl C X.env) fp) ifs (upT X.K T (fun _ _ _ _ => False) t))
    (hk : ∀ (s : Shared) (H : Hp) (C : Addr) (cl : List (Str × Addr)) (fp : List Addr), PE (X.blk s H scope (compEnvC scope cl C X.env) fp) kx (up X.K T (fun _ _ _ _ => False) rk))
    (he : ∀ (s : Shared) (H : Hp) (C : Addr) (cl : List (Str × Addr)) (fp : List Addr), PE (X.blk s H scope (compEnvC scope cl C X.env) fp) vx (up X.K T (fun _ _ _ _ => False) rv)) (hs : ∀ x, foldedSetIterable iter X.env x = pure x := by intro _; rfl)
    (hsw : swapsWith (.DictComp kx vx [⟨tg, iter, ifs, 0⟩] scope pos) (some (.Name y py)) spos.line X.env = pure false := by rfl) (hf : X.fn y = true ∨ X.env.scope.names.lookup y = some .local := by first | exact .inl rfl | exact .inr rfl | assumption) :
    PS X (.Assign [.Name y py] (.DictComp kx vx [⟨tg, iter, ifs, 0⟩] scope pos) spos) (upS X.K T W (sSetDc i ri g t rk rv (own.map (·.2)))) := PSi (ps_set hN hy hx (pe_dc hc hN hi ok hg ht hk he hs) hsw hf) (up_dc nd)
end
end DL


set_option Elab.async false
set_option linter.all false
set_option maxRecDepth 100000
set_option autoImplicit true
namespace DL
open PySem PySem.Spec PyProof.Rows L2
/-! ### xs, y = [..], b; xs, ys = [..], [..] -/
def sParFD (i j : Nat) (ra : DF) (rb : DE) : DS := fun Dd δ => ra Dd.xe δ fun xs δ1 => rb Dd.xe δ1 fun y δ2 => ∀ p, p ∉ owns δ2 → Dd.nx ((δ2.set i (.o p xs)).set j (.d y))
theorem ds_parFD {X : Cx} {T : List (Addr × Str)} {W : WX} {ra : DF} {rb : DE} {pos : Pos} {i j : Nat} {x y : Str} {a b : Expr} {px py pt : Pos} {kt k2 pt2} (hc : X.calm = true) (hN : X.N.Nodup) (hi : X.N[i]? = some x) (hj : X.N[j]? = some y) (hij : i ≠ j)
    (hx : X.env.scope.names.lookup x = some .local) (hy : X.env.scope.names.lookup y = some .local) (ha : PE X a (upF X.K T W ra)) (hb : PE X b (up X.K T W rb)) (hw : swappedStores [.Tuple [.Name x px, .Name y py] kt pt] (.Tuple [a, b] k2 pt2) X.env = pure (some [x, y]) := by rfl)
    (hs : swapsWithSole [.Tuple [.Name x px, .Name y py] kt pt] (.Tuple [a, b] k2 pt2) pos.line X.env = pure false := by rfl)
    (h1 : starEach [a, b] X.env = (false, eval a X.env) :: starEach [b] X.env := by rfl) (h2 : starEach [b] X.env = (false, eval b X.env) :: starEach [] X.env := by rfl) :
    PS X (.Assign [.Tuple [.Name x px, .Name y py] kt pt] (.Tuple [a, b] k2 pt2) pos) (upS X.K T W (sParFD i j ra rb)) := PSi (ps_par hc hN hi hj hij hx hy (pa_cons ha (pa_cons hb pa_nil h2) h1) hw hs) fun Dn σ H h => by
  obtain ⟨F, G, δ, Dd, R, hr, k⟩ := h
  refine ⟨F, G, δ, Dd.xe, _, R, hr, k.x, fun G1 H1 p us xs δ1 e1 R1 a1 a2 a3 a4 a5 q1 => ?_⟩
  have hpp : nT H1 p := nT_l a2
  have xk : ∀ {G2 : Hp}, Ex G1 G2 → XOk X.K T W (Fm.re G1 H1 δ1) G2 σ Dd.xe := fun {G2} e G' H' δ' C e' R' q => k.x G' H' δ' C ((e1.trans e).trans e') (R1.unbase R') q
  refine ⟨_, G1, δ1, Dd.xe, _, R1.rebase, q1, xk (Ex.refl G1), fun G2 H2 w y δ2 e2 R2 p2 q2 => ⟨.ref p, w, rfl, ?_⟩⟩
  have b1 : H2 p = some (.lst us) := R2.keep p _ a5 a2 (fun _ z => nomatch z)
  have b2 : G2 p = none := by
    cases z : G2 p with
    | none => rfl
    | some o => exact absurd a1 (R2.gh p a5 hpp (by rw [z]; simp))
  have b3 : p ∉ owns δ2 := fun z => by
    rcases R2.own p z with y | y
    · exact a5 y
    · exact y hpp
  have R3 := (R1.unbase R2).seto (i := i) b1 b2 (RpL.mono e2 _ _ a3) b3 (.inr a4)
  exact k.nx G2 H2 _ _ (e1.trans e2) (R3.setd p2) (q2 p b3)
def sParFF (i j : Nat) (ra rb : DF) : DS := fun Dd δ => ra Dd.xe δ fun xs δ1 => rb Dd.xe δ1 fun ys δ2 => ∀ p p', p ∉ owns δ2 → p' ∉ owns (δ2.set i (.o p xs)) → Dd.nx ((δ2.set i (.o p xs)).set j (.o p' ys))
theorem ds_parFF {X : Cx} {T : List (Addr × Str)} {W : WX} {ra : DF} {rb : DF} {pos : Pos} {i j : Nat} {x y : Str} {a b : Expr} {px py pt : Pos} {kt k2 pt2} (hc : X.calm = true) (hN : X.N.Nodup) (hi : X.N[i]? = some x) (hj : X.N[j]? = some y) (hij : i ≠ j)
    (hx : X.env.scope.names.lookup x = some .local) (hy : X.env.scope.names.lookup y = some .local) (ha : PE X a (upF X.K T W ra)) (hb : PE X b (upF X.K T W rb)) (hw : swappedStores [.Tuple [.Name x px, .Name y py] kt pt] (.Tuple [a, b] k2 pt2) X.env = pure (some [x, y]) := by rfl)
    (hs : swapsWithSole [.Tuple [.Name x px, .Name y py] kt pt] (.Tuple [a, b] k2 pt2) pos.line X.env = pure false := by rfl)
    (h1 : starEach [a, b] X.env = (false, eval a X.env) :: starEach [b] X.env := by rfl) (h2 : starEach [b] X.env = (false, eval b X.env) :: starEach [] X.env := by rfl) :
    PS X (.Assign [.Tuple [.Name x px, .Name y py] kt pt] (.Tuple [a, b] k2 pt2) pos) (upS X.K T W (sParFF i j ra rb)) := PSi (ps_par hc hN hi hj hij hx hy (pa_cons ha (pa_cons hb pa_nil h2) h1) hw hs) fun Dn σ H h => by
  obtain ⟨F, G, δ, Dd, R, hr, k⟩ := h
  refine ⟨F, G, δ, Dd.xe, _, R, hr, k.x, fun G1 H1 p us xs δ1 e1 R1 a1 a2 a3 a4 a5 q1 => ?_⟩
  have hpp : nT H1 p := nT_l a2
  have xk : ∀ {G2 : Hp}, Ex G1 G2 → XOk X.K T W (Fm.re G1 H1 δ1) G2 σ Dd.xe := fun {G2} e G' H' δ' C e' R' q => k.x G' H' δ' C ((e1.trans e).trans e') (R1.unbase R') q
  refine ⟨_, G1, δ1, Dd.xe, _, R1.rebase, q1, xk (Ex.refl G1), fun G2 H2 p' us' ys δ2 e2 R2 c1 c2 c3 c4 c5 q2 => ⟨.ref p, .ref p', rfl, ?_⟩⟩
  have b1 : H2 p = some (.lst us) := R2.keep p _ a5 a2 (fun _ z => nomatch z)
  have b2 : G2 p = none := by
    cases z : G2 p with
    | none => rfl
    | some o => exact absurd a1 (R2.gh p a5 hpp (by rw [z]; simp))
  have b3 : p ∉ owns δ2 := fun z => by
    rcases R2.own p z with y | y
    · exact a5 y
    · exact y hpp
  have ne : p' ≠ p := fun z => c4 (by rw [z]; exact hpp)
  have R3 := (R1.unbase R2).seto (i := i) b1 b2 (RpL.mono e2 _ _ a3) b3 (.inr a4)
  have b4 : p' ∉ owns (δ2.set i (.o p xs)) := fun z => by
    rcases owns_set_mem _ _ _ z with y | y
    · exact ne y
    · exact c5 y
  exact k.nx G2 H2 _ _ (e1.trans e2) (R3.seto c2 c1 c3 b4 (.inr fun z => c4 (R1.there p' z))) (q2 p p' b3 b4)
end DL


set_option Elab.async false
set_option linter.all false
set_option maxRecDepth 100000
set_option autoImplicit true
namespace DL
open PySem PySem.Spec PyProof.Rows L2
/-! ### new things, ours alone: lists and dicts; several at once -/
inductive Ct where
  | l (xs : List D) | h (ks vs : List D)
def Ct.sl (p : Addr) : Ct → Sl
  | .l xs => .o p xs
  | .h ks vs => .h p ks vs
def CtOk (K : PySem.W.Frag) (G : Hp) (o : HO) : Ct → Prop
  | .l xs => ∃ us, o = .lst us ∧ RpL K G xs us
  | .h ks vs => ∃ us, HDic o ks us ∧ RpL K G vs us
theorem CtOk.nt {K : PySem.W.Frag} {G : Hp} {o : HO} {c : Ct} (h : CtOk K G o c) : ∀ ps, o ≠ .tbl ps := by
  cases c with
  | l xs => obtain ⟨us, rfl, _⟩ := h; exact fun _ z => nomatch z
  | h ks vs => obtain ⟨us, h, _⟩ := h; exact h.nt
theorem CtOk.mono {K : PySem.W.Frag} {G G' : Hp} {o : HO} {c : Ct} (e : Ex G G') (h : CtOk K G o c) : CtOk K G' o c := by
  cases c with
  | l xs => obtain ⟨us, h1, h2⟩ := h; exact ⟨us, h1, RpL.mono e _ _ h2⟩
  | h ks vs => obtain ⟨us, h1, h2⟩ := h; exact ⟨us, h1, RpL.mono e _ _ h2⟩
theorem Rel.setc {K : PySem.W.Frag} {F : Fm} {G H : Hp} {σ : L2.St} {δ : Ev} {i : Nat} {p : Addr} {o : HO} {c : Ct} (R : Rel K T F G H σ δ) (h1 : H p = some o) (h2 : G p = none) (h3 : CtOk K G o c) (h4 : p ∉ owns δ) (h5 : ¬ nT F.H0 p) : Rel K T F G H (σ.set i (some (.ref p))) (δ.set i (c.sl p)) := by
  cases c with
  | l xs => obtain ⟨us, rfl, h⟩ := h3; exact R.seto h1 h2 h h4 (.inr h5)
  | h ks vs => obtain ⟨us, h0, h⟩ := h3; exact R.seth h1 h2 h0 h h4 (.inr h5)
abbrev DN := XC → Ev → (Ct → Ev → Prop) → Prop
def upN (K : PySem.W.Frag) (T : List (Addr × Str)) (W : WX) (r : DN) : TE := fun σ H Q => ∃ F G δ Xc Qd, Rel K T F G H σ δ ∧ r Xc δ Qd ∧ XOk K T W F G σ Xc ∧
  ∀ G' H' p o c δ', Ex G G' → Rel K T F G' H' σ δ' → G' p = none → H' p = some o → CtOk K G' o c → ¬ nT F.H0 p → p ∉ owns δ' → Qd c δ' → Q (.ref p) H'
def nF (r : DF) : DN := fun Xc δ Q => r Xc δ fun xs δ' => Q (.l xs) δ'
def nH0 : DN := fun _ δ Q => Q (.h [] []) δ
def nH1 (rk rv : DE) : DN := fun Xc δ Q => rk Xc δ fun k δ1 => rv Xc δ1 fun v δ2 => keyOk k = true ∧ Q (.h [k] [v]) δ2
section
variable {X : Cx} {T : List (Addr × Str)} {W : WX} {e e1 e2 : Expr} {es : List Expr} {r : DF} {rk rv : DE} {pos : Pos}
theorem dn_f (h : PE X e (upF X.K T W r)) : PE X e (upN X.K T W (nF r)) := PEi h fun σ H Q h => by
  obtain ⟨F, G, δ, Xc, Qd, R, hr, hx, k⟩ := h
  exact ⟨F, G, δ, Xc, _, R, hr, hx, fun G1 H1 p us xs δ1 e1 R1 a1 a2 a3 a4 a5 h1 => k G1 H1 p _ (.l xs) δ1 e1 R1 a1 a2 ⟨us, rfl, a3⟩ a4 a5 h1⟩
theorem dn_h0 : PE X (.Dict [] [] pos) (upN X.K T W nH0) := PEi pe_dnewK fun σ H Q h => by
  obtain ⟨F, G, δ, Xc, Qd, R, hr, hx, k⟩ := h
  refine fun p hp => ?_
  obtain ⟨z1, z2⟩ := R.fresh_own (nT_no hp)
  exact k G _ p _ (.h [] []) δ (Ex.refl G) (R.temp hp) (R.ex.back hp) upd_same ⟨[], ⟨[], rfl, rfl, rfl⟩, rfl⟩ z1 z2 hr
theorem dn_h1 (hk : PE X e1 (up X.K T W rk)) (hv : PE X e2 (up X.K T W rv)) : PE X (.Dict [some e1] [e2] pos) (upN X.K T W (nH1 rk rv)) := PEi (pe_disp (pps_cons hk hv pps_nil) rfl rfl (by simp) (by simp)) fun σ H Q h => by
  obtain ⟨F, G, δ, Xc, Qd, R, hr, hx, k⟩ := h
  refine fun p hp => ?_
  obtain ⟨z1, z2⟩ := R.fresh_own (nT_no hp)
  have R0 : Rel X.K T F G (upd H p (.dK [])) σ δ := R.temp hp
  have gp : G p = none := R.ex.back hp
  have hpp : (upd H p (HO.dK [])) p = some (.dK []) := upd_same
  have xk : ∀ {G1 : Hp}, Ex G G1 → XOk X.K T W (Fm.re G (upd H p (.dK [])) δ) G1 σ Xc := fun {G1} e G' H' δ' C e' R' q => hx G' H' δ' C (e.trans e') (R0.unbase R') q
  refine ⟨_, G, δ, Xc, _, R0.rebase, hr, xk (Ex.refl G), fun G1 H1 u kd δ1 e1 R1 p1 q1 => ⟨_, G1, δ1, Xc, _, R1, q1, xk e1, fun G2 H2 u2 vd δ2 e2 R2 p2 q2 => ?_⟩⟩
  obtain ⟨kk, q⟩ := q2
  have a1 : H2 p = some (.dK []) := R2.keep p _ z2 hpp (dK_nt [])
  have a2 : G2 p = none := by
    cases z : G2 p with
    | none => rfl
    | some o => exact absurd gp (R2.gh p z2 ⟨_, hpp, dK_nt []⟩ (by rw [z]; simp))
  have a3 : p ∉ owns δ2 := fun z => by
    rcases R2.own p z with y | y
    · exact z2 y
    · exact y ⟨_, hpp, dK_nt []⟩
  obtain ⟨key, rfl⟩ := keyOk_of kk
  have ew : u = kV key := by cases key <;> exact p1
  subst ew
  refine ⟨a1, [(key, u2)], rfl, by simp, ?_⟩
  exact k G2 _ p _ (.h [keyD key] [vd]) δ2 (e1.trans e2) ((R0.unbase R2).pokeA (o := .dK [(key, u2)]) a1 (dK_nt []) (dK_nc []) a2 a3 z1 (dK_nt _)) a2 upd_same ⟨[u2], ⟨_, rfl, rfl, rfl⟩, ⟨u2, [], rfl, p2, rfl⟩⟩ z1 a3 q
end
/-- some values in a row, data or new things -/
inductive Mx where
  | d (x : D) | n (c : Ct)
def MxOk (K : PySem.W.Frag) (F : Fm) (G H : Hp) (δ : Ev) : List Addr → List Mx → List V → Prop
  | _, [], vs => vs = []
  | ps, .d x :: ms, vs => ∃ v r, vs = v :: r ∧ Rp K G x v ∧ MxOk K F G H δ ps ms r
  | ps, .n c :: ms, vs => ∃ p o r, vs = .ref p :: r ∧ p ∉ ps ∧ G p = none ∧ H p = some o ∧ CtOk K G o c ∧ ¬ nT F.H0 p ∧ p ∉ owns δ ∧ MxOk K F G H δ (p :: ps) ms r
theorem MxOk.weak {K : PySem.W.Frag} {F : Fm} {G H : Hp} {δ : Ev} : ∀ {ms : List Mx} {ps qs : List Addr} {vs : List V}, (∀ p, p ∉ ps → H p ≠ none → ¬ nT F.H0 p → p ∉ qs) → MxOk K F G H δ ps ms vs → MxOk K F G H δ qs ms vs
  | [], _, _, _, _, h => h
  | .d x :: ms, ps, qs, _, k, h => by
    obtain ⟨v, r, rfl, h1, h2⟩ := h
    exact ⟨v, r, rfl, h1, MxOk.weak k h2⟩
  | .n c :: ms, ps, qs, _, k, h => by
    obtain ⟨p, o, r, rfl, h1, h2, h3, h4, h5, h6, h7⟩ := h
    refine ⟨p, o, r, rfl, k p h1 (by rw [h3]; simp) h5, h2, h3, h4, h5, h6, MxOk.weak (fun q hq a b => ?_) h7⟩
    intro z
    rcases List.mem_cons.mp z with z | z
    · exact hq (List.mem_cons.mpr (.inl z))
    · exact k q (fun y => hq (List.mem_cons_of_mem _ y)) a b z
theorem MxOk.frame {K : PySem.W.Frag} {F F' : Fm} {G H : Hp} {δ : Ev} (k : ∀ p, ¬ nT F'.H0 p → ¬ nT F.H0 p) : ∀ {ms : List Mx} {ps : List Addr} {vs : List V}, MxOk K F' G H δ ps ms vs → MxOk K F G H δ ps ms vs
  | [], _, _, h => h
  | .d x :: ms, ps, _, h => by
    obtain ⟨v, r, rfl, h1, h2⟩ := h
    exact ⟨v, r, rfl, h1, MxOk.frame k h2⟩
  | .n c :: ms, ps, _, h => by
    obtain ⟨p, o, r, rfl, h1, h2, h3, h4, h5, h6, h7⟩ := h
    exact ⟨p, o, r, rfl, h1, h2, h3, h4, k p h5, h6, MxOk.frame k h7⟩
abbrev DM := XC → Ev → (List Mx → Ev → Prop) → Prop
def upM (K : PySem.W.Frag) (T : List (Addr × Str)) (W : WX) (r : DM) : TA := fun σ H Q => ∃ F G δ Xc Qd, Rel K T F G H σ δ ∧ r Xc δ Qd ∧ XOk K T W F G σ Xc ∧
  ∀ G' H' vs ms δ', Ex G G' → Rel K T F G' H' σ δ' → MxOk K F G' H' δ' [] ms vs → Qd ms δ' → Q vs H'
def mNil : DM := fun _ δ Q => Q [] δ
def mD (r : DE) (s : DM) : DM := fun Xc δ Q => r Xc δ fun x δ1 => s Xc δ1 fun ms δ2 => Q (.d x :: ms) δ2
def mN (r : DN) (s : DM) : DM := fun Xc δ Q => r Xc δ fun c δ1 => s Xc δ1 fun ms δ2 => Q (.n c :: ms) δ2
section
variable {X : Cx} {T : List (Addr × Str)} {W : WX} {e : Expr} {es : List Expr} {r : DE} {rn : DN} {s : DM} {pos : Pos}
theorem dm_nil : PA X [] (upM X.K T W mNil) := PAi pa_nil fun σ H Q h => by
  obtain ⟨F, G, δ, Xc, Qd, R, hr, hx, k⟩ := h
  exact k G H [] [] δ (Ex.refl G) R rfl hr
theorem dm_d (ha : PE X e (up X.K T W r)) (hr : PA X es (upM X.K T W s)) (hs : starEach (e :: es) X.env = (false, eval e X.env) :: starEach es X.env := by rfl) : PA X (e :: es) (upM X.K T W (mD r s)) := PAi (pa_cons ha hr hs) fun σ H Q h => by
  obtain ⟨F, G, δ, Xc, Qd, R, hr, hx, k⟩ := h
  refine ⟨F, G, δ, Xc, _, R, hr, hx, fun G1 H1 v x δ1 e1 R1 p1 h1 => ⟨F, G1, δ1, Xc, _, R1, h1, hx.mono e1, fun G2 H2 vs ms δ2 e2 R2 p2 h2 => ?_⟩⟩
  exact k G2 H2 (v :: vs) (.d x :: ms) δ2 (e1.trans e2) R2 ⟨v, vs, rfl, Rp.mono e2 _ _ p1, p2⟩ h2
theorem dm_n (ha : PE X e (upN X.K T W rn)) (hr : PA X es (upM X.K T W s)) (hs : starEach (e :: es) X.env = (false, eval e X.env) :: starEach es X.env := by rfl) : PA X (e :: es) (upM X.K T W (mN rn s)) := PAi (pa_cons ha hr hs) fun σ H Q h => by
  obtain ⟨F, G, δ, Xc, Qd, R, hr, hx, k⟩ := h
  refine ⟨F, G, δ, Xc, _, R, hr, hx, fun G1 H1 p o c δ1 e1 R1 a1 a2 a3 a4 a5 h1 => ?_⟩
  have hpp : nT H1 p := ⟨o, a2, a3.nt⟩
  have xk : ∀ {G2 : Hp}, Ex G1 G2 → XOk X.K T W (Fm.re G1 H1 δ1) G2 σ Xc := fun {G2} e G' H' δ' C e' R' q => hx G' H' δ' C ((e1.trans e).trans e') (R1.unbase R') q
  refine ⟨_, G1, δ1, Xc, _, R1.rebase, h1, xk (Ex.refl G1), fun G2 H2 vs ms δ2 e2 R2 p2 h2 => ?_⟩
  have b1 : H2 p = some o := R2.keep p _ a5 a2 a3.nt
  have b2 : G2 p = none := by
    cases z : G2 p with
    | none => rfl
    | some o => exact absurd a1 (R2.gh p a5 hpp (by rw [z]; simp))
  have b3 : p ∉ owns δ2 := fun z => by
    rcases R2.own p z with y | y
    · exact a5 y
    · exact y hpp
  refine k G2 H2 (.ref p :: vs) (.n c :: ms) δ2 (e1.trans e2) (R1.unbase R2) ⟨p, o, vs, rfl, (fun z => nomatch z), b2, b1, a3.mono e2, a4, b3, ?_⟩ h2
  have p3 : MxOk X.K (Fm.re G1 H1 δ1) G2 H2 δ2 [p] ms vs := MxOk.weak (fun q _ _ a => fun z => a (by rw [List.mem_singleton.mp z]; exact hpp)) p2
  exact MxOk.frame (fun q hq z => hq (R1.there q z)) p3
end
/-- slots filled, one by one, with what is said -/
def setMx (δ : Ev) : List Nat → List Mx → (Ev → Prop) → Prop
  | [], [], Q => Q δ
  | i :: is, .d x :: ms, Q => setMx (δ.set i (.d x)) is ms Q
  | i :: is, .n c :: ms, Q => ∀ p, p ∉ owns δ → setMx (δ.set i (c.sl p)) is ms Q
  | _, _, _ => False
def sMPar (is : List Nat) (s : DM) : DS := fun Dd δ => s Dd.xe δ fun ms δ' => setMx δ' is ms Dd.nx
def setV (σ : L2.St) : List Nat → List V → L2.St
  | i :: is, v :: vs => setV (σ.set i (some v)) is vs
  | _, _ => σ
theorem owns_setc {δ : Ev} {i : Nat} {p : Addr} {c : Ct} {q : Addr} (h : q ∈ owns (δ.set i (c.sl p))) : q = p ∨ q ∈ owns δ := by
  cases c with
  | l xs => exact owns_set_mem _ _ _ h
  | h ks vs =>
    have h : q ∈ owns (δ.set i (.h p ks vs)) := h
    rw [owns_seth δ i p ks vs []] at h
    exact owns_set_mem _ _ _ h
theorem setMx_ok {K : PySem.W.Frag} {T : List (Addr × Str)} {F : Fm} {G H : Hp} {Q : Ev → Prop} : ∀ {is : List Nat} {ms : List Mx} {vs : List V} {ps : List Addr} {σ : L2.St} {δ δ0 : Ev}, Rel K T F G H σ δ → MxOk K F G H δ0 ps ms vs → (∀ q ∈ owns δ, q ∈ ps ∨ q ∈ owns δ0) → setMx δ is ms Q → vs.length = is.length ∧ ∃ δ', Rel K T F G H (setV σ is vs) δ' ∧ Q δ'
  | [], [], vs, _, σ, δ, _, R, h, _, q => by
    obtain rfl : vs = [] := h
    exact ⟨rfl, δ, R, q⟩
  | i :: is, .d x :: ms, _, ps, σ, δ, δ0, R, h, ho, q => by
    obtain ⟨v, r, rfl, h1, h2⟩ := h
    obtain ⟨a, b⟩ := setMx_ok (R.setd (i := i) h1) h2 (fun q hq => ho q ((owns_set_none rfl δ i).subset hq)) q
    exact ⟨by simp [a], b⟩
  | i :: is, .n c :: ms, _, ps, σ, δ, δ0, R, h, ho, q => by
    obtain ⟨p, o, r, rfl, h1, h2, h3, h4, h5, h6, h7⟩ := h
    have hp : p ∉ owns δ := fun z => (ho p z).elim h1 h6
    obtain ⟨a, b⟩ := setMx_ok (R.setc (i := i) h3 h2 h4 hp h5) h7 (fun q hq => by
      rcases owns_setc hq with z | z
      · exact .inl (by rw [z]; exact List.mem_cons_self)
      · exact (ho q z).imp (List.mem_cons_of_mem _) id) (q p hp)
    exact ⟨by simp [a], b⟩
  | [], _ :: _, _, _, _, _, _, _, _, _, q => q.elim
  | _ :: _, [], _, _, _, _, _, _, _, _, q => q.elim
section
variable {X : Cx} {T : List (Addr × Str)} {W : WX} {s : DM} {pos : Pos}
theorem ds_mpar2 {i j : Nat} {x y : Str} {a b : Expr} {px py pt : Pos} {kt k2 pt2} (hc : X.calm = true) (hN : X.N.Nodup) (ha : PA X [a, b] (upM X.K T W s)) (hi : X.N[i]? = some x := by rfl) (hj : X.N[j]? = some y := by rfl) (hij : i ≠ j := by decide)
    (hx : X.env.scope.names.lookup x = some .local := by rfl) (hy : X.env.scope.names.lookup y = some .local := by rfl) (hw : swappedStores [.Tuple [.Name x px, .Name y py] kt pt] (.Tuple [a, b] k2 pt2) X.env = pure (some [x, y]) := by rfl)
    (hs : swapsWithSole [.Tuple [.Name x px, .Name y py] kt pt] (.Tuple [a, b] k2 pt2) pos.line X.env = pure false := by rfl) :
    PS X (.Assign [.Tuple [.Name x px, .Name y py] kt pt] (.Tuple [a, b] k2 pt2) pos) (upS X.K T W (sMPar [i, j] s)) := PSi (ps_par hc hN hi hj hij hx hy ha hw hs) fun Dn σ H h => by
  obtain ⟨F, G, δ, Dd, R, hr, k⟩ := h
  refine ⟨F, G, δ, Dd.xe, _, R, hr, k.x, fun G' H' vs ms δ' e R' p q => ?_⟩
  obtain ⟨hl, δ2, R2, q2⟩ := setMx_ok R' p (fun q hq => .inr hq) q
  match vs, hl, R2 with
  | [v, w], _, R2 => exact ⟨v, w, rfl, k.nx G' H' _ _ e R2 q2⟩
theorem ds_mpar3 {i0 i1 i2 : Nat} {x y z : Str} {a b c : Expr} {px py pz pt : Pos} {kt k2 pt2} (hc : X.calm = true) (hN : X.N.Nodup) (ha : PA X [a, b, c] (upM X.K T W s)) (hi : X.N[i0]? = some x := by rfl) (hj : X.N[i1]? = some y := by rfl) (hl : X.N[i2]? = some z := by rfl) (hij : i0 ≠ i1 := by decide) (hil : i0 ≠ i2 := by decide) (hjl : i1 ≠ i2 := by decide)
    (hx : X.env.scope.names.lookup x = some .local := by rfl) (hy : X.env.scope.names.lookup y = some .local := by rfl) (hz : X.env.scope.names.lookup z = some .local := by rfl)
    (hw : swappedStores [.Tuple [.Name x px, .Name y py, .Name z pz] kt pt] (.Tuple [a, b, c] k2 pt2) X.env = pure (some [x, y, z]) := by rfl)
    (hs : swapsWithSole [.Tuple [.Name x px, .Name y py, .Name z pz] kt pt] (.Tuple [a, b, c] k2 pt2) pos.line X.env = pure false := by rfl) :
    PS X (.Assign [.Tuple [.Name x px, .Name y py, .Name z pz] kt pt] (.Tuple [a, b, c] k2 pt2) pos) (upS X.K T W (sMPar [i0, i1, i2] s)) := PSi (ps_par3 hc hN hi hj hl hij hil hjl hx hy hz ha hw hs) fun Dn σ H h => by
  obtain ⟨F, G, δ, Dd, R, hr, k⟩ := h
  refine ⟨F, G, δ, Dd.xe, _, R, hr, k.x, fun G' H' vs ms δ' e R' p q => ?_⟩
  obtain ⟨hl', δ2, R2, q2⟩ := setMx_ok R' p (fun q hq => .inr hq) q
  match vs, hl', R2 with
  | [v, w, u], _, R2 => exact ⟨v, w, u, rfl, k.nx G' H' _ _ e R2 q2⟩
end
end DL


set_option Elab.async false
set_option linter.all false
set_option maxRecDepth 100000
set_option autoImplicit true
namespace DL
open PySem PySem.Spec PyProof.Rows L2
/-! ### << and >> -/
abbrev fShl := fI CShl fun i j => .int (i * 2 ^ j.toNat)
abbrev fShr := fI (fun _ j => 0 ≤ j) fun i j => .int (i / 2 ^ j.toNat)
section
variable {X : Cx} {T : List (Addr × Str)} {W : WX} {a b : Expr} {ra rb : DE} {pos : Pos} {Q : D → Prop} {i j : Int}
theorem dx_shl (ha : PE X a (up X.K T W ra)) (hb : PE X b (up X.K T W rb)) : PE X (.BinOp a .LShift b pos) (up X.K T W (dBin fShl ra rb)) := dx_op op_shlW (lf_I fun _ _ _ => rfl) ha hb
theorem dx_shr (ha : PE X a (up X.K T W ra)) (hb : PE X b (up X.K T W rb)) : PE X (.BinOp a .RShift b pos) (up X.K T W (dBin fShr ra rb)) := dx_op op_shr (lf_I fun _ _ _ => rfl) ha hb
theorem r_shl : fShl (.int i) (.int j) Q = (CShl i j ∧ Q (.int (i * 2 ^ j.toNat))) := rfl
theorem r_shr : fShr (.int i) (.int j) Q = (0 ≤ j ∧ Q (.int (i / 2 ^ j.toNat))) := rfl
/-! ### four and more at once: through a tuple -/
def gNames : List Nat → TGs
  | [] => gNil
  | i :: is => gCons (gName i) (gNames is)
theorem gNames_ok : ∀ {is : List Nat} {vs : List V} {σ : L2.St} {H : Hp} {Q : L2.St → Hp → Prop}, vs.length = is.length → Q (setV σ is vs) H → gNames is vs σ H Q
  | [], [], _, _, _, _, q => ⟨rfl, q⟩
  | i :: is, v :: vs, _, _, _, h, q => ⟨v, vs, rfl, gNames_ok (by simpa using h) q⟩
theorem ds_mparN {is : List Nat} {s : DM} {es ts : List Expr} {kt k2 : Nat} {pt pt2 : Pos} (hc : X.calm = true) (ha : PA X es (upM X.K T W s)) (hg : PGs X ts (gNames is)) (hlen : is.length ≤ sizeLine := by rw [sizeLine_eq]; decide)
    (hn : (assignEach ts X.env).length = is.length := by rfl) (hst : (assignEach ts X.env).findIdx? (·.1) = none := by rfl)
    (hs : swapsWithSole [.Tuple ts kt pt] (.Tuple es k2 pt2) pos.line X.env = pure false := by rfl) (hw : swappedStores [.Tuple ts kt pt] (.Tuple es k2 pt2) X.env = pure none := by rfl)
    (h1 : (assignEach [.Tuple ts kt pt] X.env).map (·.2) = [assign (.Tuple ts kt pt) X.env] := by rfl) :
    PS X (.Assign [.Tuple ts kt pt] (.Tuple es k2 pt2) pos) (upS X.K T W (sMPar is s)) := PSi (ps_asg (pe_tup ha) (pg_tup hc hg hn hst) hs hw h1) fun Dn σ H h => by
  obtain ⟨F, G, δ, Dd, R, hr, k⟩ := h
  refine ⟨F, G, δ, Dd.xe, _, R, hr, k.x, fun G' H' vs ms δ' e R' p q => ?_⟩
  obtain ⟨hl, δ2, R2, q2⟩ := setMx_ok R' p (fun q hq => .inr hq) q
  refine ⟨by rw [hl]; exact hlen, fun t ht => ⟨t, vs, rfl, .inl (.inl upd_same), hl, gNames_ok hl ?_⟩⟩
  exact k.nx G' _ _ _ e (R2.temp ht) q2
end
end DL


set_option Elab.async false
set_option linter.all false
set_option maxRecDepth 100000
namespace DL
open PySem PySem.Spec PyProof.Rows L2
/-! ### == of data without truth values -/
def isQ : Nat → D → Bool
  | _, .non => true
  | _, .int _ => true
  | _, .str x => PyData.strOk x
  | n + 1, .lst xs => xs.all (isQ n)
  | n + 1, .tup xs => xs.all (isQ n)
  | _, _ => false
theorem toPyL_map : ∀ xs : List D, toPyL xs = xs.map D.toPy
  | [] => rfl
  | x :: xs => by rw [toPyL, toPyL_map xs, List.map_cons]
theorem lay_all : ∀ {xs : List D}, (∀ x ∈ xs, x.toPy.canLay0 = true) → PyData.canLayAll0 (toPyL xs) = true
  | [], _ => by rw [toPyL, PyData.canLayAll0]
  | x :: xs, h => by rw [toPyL, PyData.canLayAll0, h x List.mem_cons_self, lay_all fun y hy => h y (List.mem_cons_of_mem _ hy)]; rfl
theorem dep_all {n : Nat} : ∀ {xs : List D}, (∀ x ∈ xs, x.toPy.depth ≤ n) → PyData.depthAll (toPyL xs) ≤ n
  | [], _ => by rw [toPyL, PyData.depthAll]; omega
  | x :: xs, h => by
    rw [toPyL, PyData.depthAll]
    have h1 := h x List.mem_cons_self
    have h2 := dep_all fun y hy => h y (List.mem_cons_of_mem _ hy)
    omega
theorem isQ_lay : ∀ (n : Nat) (d : D), isQ n d = true → d.toPy.canLay0 = true ∧ d.toPy.depth ≤ n
  | _, .non, _ => by rw [D.toPy, PyData.canLay0, PyData.depth]; exact ⟨rfl, Nat.zero_le _⟩
  | _, .int _, _ => by rw [D.toPy, PyData.canLay0, PyData.depth]; exact ⟨rfl, Nat.zero_le _⟩
  | n, .str x, h => by
    have h : PyData.strOk x = true := by cases n <;> exact h
    rw [D.toPy, PyData.canLay0, PyData.depth]
    exact ⟨h, Nat.zero_le _⟩
  | n + 1, .lst xs, h => by
    have h : xs.all (isQ n) = true := h
    rw [List.all_eq_true] at h
    rw [D.toPy, PyData.canLay0, PyData.depth]
    exact ⟨lay_all fun x hx => (isQ_lay n x (h x hx)).1, Nat.succ_le_succ (dep_all fun x hx => (isQ_lay n x (h x hx)).2)⟩
  | n + 1, .tup xs, h => by
    have h : xs.all (isQ n) = true := h
    rw [List.all_eq_true] at h
    rw [D.toPy, PyData.canLay0, PyData.depth]
    exact ⟨lay_all fun x hx => (isQ_lay n x (h x hx)).1, Nat.succ_le_succ (dep_all fun x hx => (isQ_lay n x (h x hx)).2)⟩
  | 0, .lst _, h => Bool.noConfusion (show false = true from h)
  | 0, .tup _, h => Bool.noConfusion (show false = true from h)
  | 0, .bl _, h => Bool.noConfusion (show false = true from h)
  | n + 1, .bl _, h => Bool.noConfusion (show false = true from h)
  | 0, .sq _, h => Bool.noConfusion (show false = true from h)
  | n + 1, .sq _, h => Bool.noConfusion (show false = true from h)
  | 0, .dic _ _, h => Bool.noConfusion (show false = true from h)
  | n + 1, .dic _ _, h => Bool.noConfusion (show false = true from h)
  | 0, .opq _, h => Bool.noConfusion (show false = true from h)
  | n + 1, .opq _, h => Bool.noConfusion (show false = true from h)
theorem okE_q {n : Nat} {d : D} (h : isQ n d = true) (hn : n ≤ 64 := by decide) : okE d = true := by
  obtain ⟨h1, h2⟩ := isQ_lay n d h
  unfold okE SeqAt.shaped
  rw [h1, decide_eq_true (Nat.le_trans h2 hn)]
  rfl
theorem eqvAll_q {n : Nat} (ih : ∀ (x y : D), isQ n x = true → isQ n y = true → (PyData.eqv x.toPy y.toPy = true ↔ x = y)) : ∀ (xs ys : List D), (∀ x ∈ xs, isQ n x = true) → (∀ y ∈ ys, isQ n y = true) → (PyData.eqvAll (toPyL xs) (toPyL ys) = true ↔ xs = ys)
  | [], [], _, _ => by rw [toPyL, PyData.eqvAll]; simp
  | [], _ :: _, _, _ => by rw [toPyL, toPyL, PyData.eqvAll]; simp
  | _ :: _, [], _, _ => by rw [toPyL, toPyL, PyData.eqvAll]; simp
  | x :: xs, y :: ys, hx, hy => by
    rw [toPyL, toPyL, PyData.eqvAll, Bool.and_eq_true, ih x y (hx x List.mem_cons_self) (hy y List.mem_cons_self), eqvAll_q ih xs ys (fun z hz => hx z (List.mem_cons_of_mem _ hz)) (fun z hz => hy z (List.mem_cons_of_mem _ hz)), List.cons.injEq]
theorem eqv_q : ∀ (n : Nat) (x y : D), isQ n x = true → isQ n y = true → (PyData.eqv x.toPy y.toPy = true ↔ x = y) := by
  intro n
  induction n with
  | zero =>
    intro x y hx hy
    cases x <;> first | exact Bool.noConfusion (show false = true from hx) | skip
    all_goals cases y <;> first | exact Bool.noConfusion (show false = true from hy) | (simp [D.toPy, PyData.eqv]; done)
  | succ n ih =>
    intro x y hx hy
    cases x <;> first | exact Bool.noConfusion (show false = true from hx) | skip
    all_goals cases y <;> first | exact Bool.noConfusion (show false = true from hy) | (simp [D.toPy, PyData.eqv]; done) | skip
    case succ.lst.lst xs ys =>
      rw [D.toPy, D.toPy, PyData.eqv, eqvAll_q ih xs ys (List.all_eq_true.mp hx) (List.all_eq_true.mp hy), D.lst.injEq]
    case succ.tup.tup xs ys =>
      rw [D.toPy, D.toPy, PyData.eqv, eqvAll_q ih xs ys (List.all_eq_true.mp hx) (List.all_eq_true.mp hy), D.tup.injEq]
theorem eqv_dec {n : Nat} {x y : D} {p : Prop} [Decidable p] (hx : isQ n x = true) (hy : isQ n y = true) (h : x = y ↔ p) : PyData.eqv x.toPy y.toPy = decide p := by
  rw [Bool.eq_iff_iff, eqv_q n x y hx hy, decide_eq_true_eq]
  exact h
theorem isQ_ints {n : Nat} (ns : List Int) : isQ (n + 1) (.tup (ns.map D.int)) = true := by
  show (ns.map D.int).all (isQ n) = true
  rw [List.all_map, List.all_eq_true]
  intro x _
  cases n <;> rfl
theorem map_int_inj {a b : List Int} : a.map D.int = b.map D.int ↔ a = b := by
  constructor
  · intro h
    have := congrArg (List.map fun d => match d with | D.int i => i | _ => 0) h
    simpa [List.map_map, Function.comp_def] using this
  · intro h; rw [h]
theorem eqv_tints (a b : List Int) : PyData.eqv (D.tup (a.map D.int)).toPy (D.tup (b.map D.int)).toPy = decide (a = b) :=
  eqv_dec (n := 1) (isQ_ints a) (isQ_ints b) (by rw [D.tup.injEq, map_int_inj])
theorem eqv_lints (a b : List Int) : PyData.eqv (D.lst (a.map D.int)).toPy (D.lst (b.map D.int)).toPy = decide (a = b) :=
  eqv_dec (n := 1) (isQ_ints (n := 0) a) (isQ_ints (n := 0) b) (by rw [D.lst.injEq, map_int_inj])
end DL


set_option Elab.async false
set_option linter.all false
set_option maxRecDepth 100000
namespace DL
open PySem PySem.Spec PyProof.Rows L2
section
variable {δ1 : Ev} {vs : List Nat} {g : DG} {t : DT} {re : DE} {Q : List D → Ev → Prop}
theorem lc_ints {l : List Int} (f : Int → D) (ht : t = tYesD) (hz : l.length ≤ sizeLine) (h : ∀ i ∈ l, ∀ (P : D → Ev → Prop), (∀ δ5, wipeD δ5 vs = wipeD δ1 vs → P (f i) δ5) → g (.int i) (wipeD δ1 vs) fun δ3 => re (fun _ _ => False) δ3 P) (hq : Q (l.map f) (backD δ1 (wipeD δ1 vs) vs)) :
    lcG (l.map D.int) g t re vs δ1 Q := by
  refine lc_ys2 (l.map f) ht (by simp) (by rw [List.length_map]; exact hz) (fun i x y P hx hy hP => ?_) hq
  obtain ⟨n, h1, rfl⟩ := ints_get hx
  rw [List.getElem?_map, h1] at hy
  rw [show y = f n from (Option.some.inj hy).symm] at hP
  exact h n (List.mem_of_getElem? h1) P hP
theorem zipD_ints (l m : List Int) : zipD (l.map D.int) (m.map D.int) = List.zipWith (fun a b => D.tup [.int a, .int b]) l m := by
  unfold zipD
  rw [List.zipWith_map]
theorem lc_zipI {l m : List Int} (f : Int → Int → D) (ht : t = tYesD) (hz : l.length ≤ sizeLine) (h : ∀ (i : Nat) (a b : Int), l[i]? = some a → m[i]? = some b → ∀ (P : D → Ev → Prop), (∀ δ5, wipeD δ5 vs = wipeD δ1 vs → P (f a b) δ5) → g (.tup [.int a, .int b]) (wipeD δ1 vs) fun δ3 => re (fun _ _ => False) δ3 P)
    (hq : Q (List.zipWith f l m) (backD δ1 (wipeD δ1 vs) vs)) : lcG (zipD (l.map D.int) (m.map D.int)) g t re vs δ1 Q := by
  rw [zipD_ints]
  refine lc_ys2 (List.zipWith f l m) ht (by simp) (by rw [List.length_zipWith]; omega) (fun i x y P hx hy hP => ?_) hq
  rw [List.getElem?_zipWith] at hx hy
  split at hx
  · rename_i a b ha hb
    rw [ha, hb] at hy
    rw [show y = f a b from (Option.some.inj hy).symm] at hP
    rw [show x = .tup [.int a, .int b] from (Option.some.inj hx).symm]
    exact h i a b ha hb P hP
  · cases hx
/-- a comprehension over a range -/
theorem lc_rng {lo : Int} {n : Nat} (f : Nat → D) (ht : t = tYesD) (hz : n ≤ sizeLine) (h : ∀ i, i < n → ∀ (P : D → Ev → Prop), (∀ δ5, wipeD δ5 vs = wipeD δ1 vs → P (f i) δ5) → g (.int (lo + (i : Int))) (wipeD δ1 vs) fun δ3 => re (fun _ _ => False) δ3 P) (hq : Q ((List.range n).map f) (backD δ1 (wipeD δ1 vs) vs)) :
    lcG (rngD lo n) g t re vs δ1 Q := by
  refine lc_ys2 ((List.range n).map f) ht (by rw [rngD_len]; simp) (by rw [rngD_len]; exact hz) (fun i x y P hx hy hP => ?_) hq
  obtain ⟨h1, rfl⟩ := rngD_get hx
  rw [List.getElem?_map, List.getElem?_range h1] at hy
  rw [show y = f i from (Option.some.inj hy).symm] at hP
  exact h i h1 P hP
end
theorem all_ints {α : Type} (l : List α) (f : α → Bool) : ∃ bs : List Bool, (l.map fun x => D.bl (f x)) = bs.map D.bl ∧ bs.all id = l.all f := ⟨l.map f, by rw [List.map_map]; rfl, by rw [List.all_map]; rfl⟩
theorem any_ints {α : Type} (l : List α) (f : α → Bool) : ∃ bs : List Bool, (l.map fun x => D.bl (f x)) = bs.map D.bl ∧ bs.any id = l.any f := ⟨l.map f, by rw [List.map_map]; rfl, by rw [List.any_map]; rfl⟩
theorem zip_bools {α β : Type} (l : List α) (m : List β) (f : α → β → Bool) : List.zipWith (fun a b => D.bl (f a b)) l m = (List.zipWith f l m).map D.bl := by
  rw [List.map_zipWith]
theorem cut_ints_to (l : List Int) (n : Nat) : cut (l.map D.int) none (some (n : Int)) = (l.take n).map D.int := by
  unfold cut
  rw [HT.sIx_none, HT.sIx_nat, List.drop_zero, Nat.sub_zero, ← List.map_take]
  congr 1
  rw [List.length_map]
  rcases Nat.le_total n l.length with h | h
  · rw [Nat.min_eq_left h]
  · rw [Nat.min_eq_right h, List.take_length, List.take_of_length_le h]
theorem cut_ints_from (l : List Int) (n : Nat) : cut (l.map D.int) (some (n : Int)) none = (l.drop n).map D.int := by
  unfold cut
  rw [HT.sIx_none, HT.sIx_nat, List.length_map, List.take_of_length_le (by rw [List.length_drop, List.length_map]; omega), ← List.map_drop]
  congr 1
  rcases Nat.le_total n l.length with h | h
  · rw [Nat.min_eq_left h]
  · rw [Nat.min_eq_right h, List.drop_length, List.drop_eq_nil_of_le h]
/-- xs[:-1] -/
theorem cut_last {α : Type} (xs : List α) : cut xs none (some (-1)) = xs.dropLast := by
  unfold cut
  rw [HT.sIx_none, List.drop_zero, Nat.sub_zero, List.dropLast_eq_take]
  congr 1
  unfold HT.sIx
  simp
  omega
/-- xs[-1] -/
theorem ix_last {n : Nat} (h : 0 < n) : ixN n (-1) = some (n - 1) := by
  unfold ixN
  simp
  omega
theorem at_last {xs : List D} {y : D} (h : xs[xs.length - 1]? = some y) : atI xs (-1) = some y := by
  have hl : 0 < xs.length := by
    have := (List.getElem?_eq_some_iff.mp h).1
    omega
  unfold atI
  rw [ix_last hl]
  exact h
/-- an item by its place -/
theorem at_intD {l : List Int} {i : Nat} (h : i < l.length) : atI (l.map D.int) (i : Int) = some (.int (l.getD i 0)) := by
  refine atI_nat ?_
  rw [List.getElem?_map, List.getElem?_eq_getElem h, List.getD_eq_getElem?_getD, List.getElem?_eq_getElem h]
  rfl
end DL


set_option Elab.async false
set_option linter.all false
set_option maxRecDepth 100000
set_option autoImplicit true
namespace DL
open PySem PySem.Spec PyProof.Rows L2
/-! ### enumerate of a tuple -/
set_option maxHeartbeats 1000000 in
theorem meets_enum1 {v : Value} {ob : Obj} {K : Heap → Prop} (B : Begins v ob K) : Meets (Builtin.«enumerate.__new__» ⟨[.type "enumerate", v], []⟩) (fun _ R s => K s.heap ∧
      R (.ok (.ret (.ref (s.heap.push ob).objs.size))) { s with heap := (s.heap.push ob).push { cls := .type "enumerate", data := .fields #[.none, .bool false, .ref s.heap.objs.size, rawInt 0, .none, .none] } }) :=
  .of_wp fun prog w A R s hh => by
    obtain ⟨hp, gg, dd, tk, os⟩ := s
    obtain ⟨k1, hh⟩ := hh
    have hsub := sub_enumerate
    have go : ∀ {A' : Around} {E : Value → Shared → Prop} {Q : Value → Shared → Prop}, Q (.ref hp.objs.size) ⟨hp.push ob, gg, dd, tk, os⟩ → wpAny (model prog w) A' (pyIter v) Q E ⟨hp, gg, dd, tk, os⟩ := fun q => B.iter prog w _ _ ⟨hp, gg, dd, tk, os⟩ _ k1 q
    wp_walk using go
    refine wpAny_stack_any fun st => wpAny_pure ?_
    split
    · rename_i c _ _ _ _ _
      cases (c == Value.type "enumerate") <;> (wp_walk using go; exact ⟨_, rfl, hh⟩)
    · wp_walk using go
      exact ⟨_, rfl, hh⟩
section
variable {prog : Program} {w : World} {A : Around} {E : Value → Shared → Prop} {s : Shared}
theorem enum_new1 {v : Value} {ob : Obj} {K : Heap → Prop} {Q : Value → Shared → Prop} (B : Begins v ob K) (k1 : K s.heap)
    (h : ∀ h', IsEnum h' (s.heap.objs.size + 1) s.heap.objs.size 0 .none → h'.get? s.heap.objs.size = some ob → (∀ b o, s.heap.get? b = some o → h'.get? b = some o) → Q (.ref (s.heap.objs.size + 1)) { s with heap := h' }) : wpAny (model prog w) A (call (.type "enumerate") [v]) Q E s := by
  refine callType_new F.called_enumerate (by decide) (F.typeCall_enumerate_1 _) (F.newCall_enumerate_1 _) (fun x => F.args_object_init_2 x _) F.entry_enumerate_new (meets_enum1 B) ⟨k1, ?_⟩
  have z : (s.heap.push ob).objs.size = s.heap.objs.size + 1 := Heap.size_push ..
  show _ ∧ _
  rw [z]
  have g : IsEnum ((s.heap.push ob).push { cls := .type "enumerate", data := .fields #[.none, .bool false, .ref s.heap.objs.size, rawInt 0, .none, .none] }) (s.heap.objs.size + 1) s.heap.objs.size 0 .none := by
    have g := Heap.get?_push_size (s.heap.push ob) (o := { cls := .type "enumerate", data := .fields #[.none, .bool false, .ref s.heap.objs.size, rawInt 0, .none, .none] }) rfl
    rwa [z] at g
  exact ⟨⟨_, g, rfl⟩, h _ g (Heap.get?_push_of_some _ (Heap.get?_push_size _ B.free)) fun b o x => Heap.get?_push_of_some _ (Heap.get?_push_of_some _ x)⟩
end
/-- the tuple at a, each item in a new pair -/
def IteT (K : PySem.W.Frag) (a : Addr) : It :=
  ⟨fun i H => ∃ (xs : List V) (x : V), SqT K H a xs ∧ xs[i]? = some x, fun i H v H' => ∃ T x, v = .ref T ∧ H T = none ∧ H' = upd H T (.tup [.int (i : Nat), x]) ∧ ∀ xs, SqT K H a xs → xs[i]? = some x, fun i H => ∃ xs : List V, SqT K H a xs ∧ xs.length ≤ i⟩
theorem turn_enumT {P : Program} {w : World} {K : PySem.W.Frag} {elts : List Expr} {kk : Nat} {tpos : Pos} (a e it : Addr) (ne : a ≠ it) (nae : a ≠ e) :
    Turn P w K (.Tuple elts kk tpos) (IteT K a) [e, it] e (fun i h => (∃ old, IsEnum h e it ((i : Nat) : Int) old) ∧ h.IsTupleIter it a i ∧ e ≠ it) where
  mem := by simp
  obj := fun i h st b hb => by
    obtain ⟨⟨old, g⟩, ⟨o, ho, hc, hd⟩, _⟩ := st
    rcases (show b = e ∨ b = it by simpa using hb) with z | z
    · rw [z]; exact ⟨_, g, fun v q => nomatch q⟩
    · rw [z]; exact ⟨o, ho, fun v q => by rw [hd] at q; cases q⟩
  keep := fun i h h' st k => let ⟨⟨old, g⟩, hi, z⟩ := st; ⟨⟨old, k e (by simp) _ g⟩, hi.at fun o q => k it (by simp) o q, z⟩
  item := by
    intro X hP hw hK hc i pins s σ H E I hf st hg
    subst hP hw hK
    obtain ⟨⟨old, g⟩, hit, hne⟩ := st
    obtain ⟨xs, x, hq, hx⟩ := hg
    obtain ⟨its, rv, pp, hz⟩ := I.tuple hq
    obtain ⟨u, hu, ru⟩ := rv.get hx
    have l1 : e < s.heap.objs.size := Heap.lt_size g
    have l2 : it < s.heap.objs.size := by obtain ⟨_, q, _⟩ := hit; exact Heap.lt_size q
    have hi : i < its.toArray.size := by
      have := (List.getElem?_eq_some_iff.mp hu).1
      simpa using this
    have Dr := Draws.tuple (prog := X.prog) (w := X.w) (A := X.A.in1) (I.ok.hd hc) it a ne its.toArray
    refine wpAny_pyNext_enum_itemD Dr g ⟨hit, pp⟩ hi hne (by simp; exact ⟨hne, Ne.symm nae⟩) fun y h' tk hP ho st' hT hsz hk => ?_
    have ey : y = u := by
      have e1 : its.toArray[i]? = some u := by simpa using hu
      rw [e1] at hP
      exact (Option.some.inj hP).symm
    subst ey
    refine ⟨_, rfl, wpAny_letOwnedTupleGo_enum (s := { s with heap := h', toks := tk + 1 }) ho fun h'' he' sb => ?_⟩
    have hT2 : h''.get? s.heap.objs.size = some { cls := .type "tuple", data := .seq #[.int i tk, y] } := (sb.2 _ (Nat.ne_of_gt l1)).trans hT
    have new : ObjOk X.prog X.w (upd H s.heap.objs.size (.tup [.int (i : Nat), x])) h'' s.heap.objs.size (.tup [.int (i : Nat), x]) := ⟨by show 2 ≤ sizeLine; decide, [.int i tk, y], .cons ⟨_, rfl⟩ (.cons ru .nil), ⟨_, hT2, rfl, _, rfl⟩⟩
    have I1 : Inv X pins σ (upd H s.heap.objs.size (.tup [.int (i : Nat), x])) { s with heap := h'', toks := tk + 1 } :=
      I.turnedNew (ch := [e, it]) (fun b ob hb q => (sb.2 b (fun z => hb (by simp [z]))).trans (hk b ob (fun z => hb (by simp [z])) (fun z => hb (by simp [z])) q)) hf (Nat.le_refl _) new
    refine ⟨.ref s.heap.objs.size, _, I1, rfl, ⟨_, x, rfl, I.hok.fresh (Nat.le_refl _), rfl, fun ys hy => by rw [I.tuple_inj hy hq]; exact hx⟩, ⟨⟨y, ?_⟩, st'.1.at fun o q => (sb.2 it (Ne.symm hne)).trans q, hne⟩, fun b hb => ?_⟩
    · rw [show ((i + 1 : Nat) : Int) = (i : Int) + 1 by omega]; exact he'
    · have hb' : b < s.heap.objs.size := by
        rcases (show b = e ∨ b = it by simpa using hb) with z | z
        · rw [z]; exact l1
        · rw [z]; exact l2
      rw [upd_ne (Nat.ne_of_lt hb')]
      exact (hf b hb).1
  done := by
    intro X hP hw hK hc i pins s σ H E I hf st hg
    subst hP hw hK
    obtain ⟨⟨old, g⟩, hit, hne⟩ := st
    obtain ⟨xs, hq, hx⟩ := hg
    obtain ⟨its, rv, pp, hz⟩ := I.tuple hq
    obtain ⟨f0, f1, f2, f3, f4, f5⟩ := hf it (by simp)
    have hl := rv.length
    have hi : its.toArray[i]? = none := by simp; omega
    have hT : s.TypeIs (.ref e) "enumerate" := ⟨_, g, rfl⟩
    unfold pyNext
    refine wpAny_bind (wpAny_attempt (wpAny_callSpecial?_slot (name := Str.ofString "__next__") hT F.slot_enumerate_next (wpAny_call_entry F.slot_enumerate_next hT F.entry_enumerate_next ?_ (F.args_enumerate_next_1 _))))
    show wpAny _ _ (field (.ref e) 2 >>= _) _ _ _
    refine wpAny_bind (wpAny_field g rfl (x := .ref it) rfl ?_)
    refine wpAny_bind (wpAny_nextOf_tuple_end (I.ok.hd hc) hit pp hi fun h' x eb hx' => ?_)
    obtain ⟨o, ho, hcl⟩ := hx'
    refine wpAny_bind (wpAny_isInstance (T := "StopIteration") (b := true) ⟨o, ho, hcl⟩ isSubtype_stop ?_)
    exact wpAny_pure ⟨rfl, I.turned (t' := s.toks) (fun b o hb q => eb b o hb q) f0 f1 f3 f4 f5⟩
  self := fun A i s Q E st h => let ⟨⟨_, g⟩, _⟩ := st; wpAny_pyIter_enum g h
def iEnumT (K : PySem.W.Frag) (ta : TA) : TI := fun σ H R => ta σ H fun vs H1 => ∃ a xs, vs = [.ref a] ∧ ((SqL K H1 a xs ∧ R (Ite K a) H1) ∨ (SqT K H1 a xs ∧ R (IteT K a) H1))
theorem pi_enumT {X : Cx} {e : Expr} {ta : TA} {p pos tpos : Pos} {elts : List Expr} {kk : Nat} (hg : Gl X "enumerate") (hm : X.mg "enumerate" = none) (ha : PA X [e] ta) (hs : starEach [e] X.env = [(false, eval e X.env)] := by rfl) : PI X (.Tuple elts kk tpos) (.Call (.Name "enumerate" p) [e] [] pos) (iEnumT X.K ta) := by
  refine ⟨fun pins s σ H R I h => ?_⟩
  refine Call_ (ld_blt I hg hm boot_enumerate (PyProof.Rows.callWith_type1 (thn (ha.run pos pins s σ H _ I h) fun us s1 ⟨vs, H1, I1, r1, q1⟩ => ?_) hs rfl))
  obtain ⟨a, xs, ex, q1⟩ := q1
  subst ex
  have fp : ∀ b ∈ [s1.heap.objs.size + 1, s1.heap.objs.size], FpOk X pins H1 b := fun b hb => by
    have hle : s1.heap.objs.size ≤ b := by
      rcases (show b = s1.heap.objs.size + 1 ∨ b = s1.heap.objs.size by simpa using hb) with z | z <;> omega
    exact I1.fpOk hle (I1.hok.fresh hle)
  cases r1 with
  | cons r rr =>
    cases rr
    cases r
    rcases q1 with ⟨hq, q⟩ | ⟨hq, q⟩
    · obtain ⟨its, rv, p', hz⟩ := I1.list hq
      refine call_enumerate_list p'.isList fun h' he hit hsz hk => wpAny_pyIter_enum he ?_
      exact ⟨s1.heap.objs.size + 1, [s1.heap.objs.size + 1, s1.heap.objs.size], _, _, H1, rfl, I1.kept (t' := s1.toks) hk, turn_enum a (s1.heap.objs.size + 1) s1.heap.objs.size, ⟨⟨.none, he⟩, hit, Nat.succ_ne_self _⟩, fp, q⟩
    · obtain ⟨its, rv, p', hz⟩ := I1.tuple hq
      have hlt : a < s1.heap.objs.size := by obtain ⟨o, ho, _⟩ := id p'; exact Heap.lt_size ho
      refine enum_new1 (begins_tuple a its.toArray) p' fun h' he hit hk => wpAny_pyIter_enum he ?_
      exact ⟨s1.heap.objs.size + 1, [s1.heap.objs.size + 1, s1.heap.objs.size], _, _, H1, rfl, I1.kept (t' := s1.toks) hk, turn_enumT a (s1.heap.objs.size + 1) s1.heap.objs.size (Nat.ne_of_lt hlt) (Nat.ne_of_lt (Nat.lt_succ_of_lt hlt)), ⟨⟨.none, he⟩, ⟨_, hit, rfl, rfl⟩, Nat.succ_ne_self _⟩, fp, q⟩
theorem itok_et {K : PySem.W.Frag} {T : List (Addr × Str)} {G : Hp} {a : Addr} {xs : List D} {us : List V} (h : SqT K G a us) (p : RpL K G xs us) : ItOk K T G (IteT K a) (enumD xs) := fun F G1 H1 σ1 δ1 i e R => by
  have h1 : SqT K H1 a us := ex_t (e.trans R.ex) h
  refine ⟨fun hi => ⟨us, h1, by rw [p.length]; rwa [enumD, List.length_mapIdx] at hi⟩, fun x hx => ?_⟩
  rw [enumD, List.getElem?_mapIdx] at hx
  cases q : xs[i]? with
  | none => rw [q] at hx; cases hx
  | some d =>
    rw [q] at hx
    obtain rfl := (Option.some.inj hx).symm
    obtain ⟨v, hv, pv⟩ := p.get q
    refine ⟨⟨us, v, h1, hv⟩, fun w H2 ⟨c, y, ew, hc, eh, hw⟩ => ?_⟩
    subst ew eh
    have := hw us h1
    rw [hv] at this
    cases this
    exact pairG R hc rfl (Rp.mono e _ _ pv)
def iEnumA (s : DF) : DF := fun Xc δ Q => s Xc δ fun xs δ' => match xs with
  | [.lst ys] => Q (enumD ys) δ'
  | [.sq ys] => Q (enumD ys) δ'
  | [.tup ys] => Q (enumD ys) δ'
  | _ => False
theorem di_enumA {X : Cx} {T : List (Addr × Str)} {W : WX} {e : Expr} {s : DF} {elts : List Expr} {kk : Nat} {tpos p pos : Pos} (hm : X.mg "enumerate" = none) (ha : PA X [e] (upA X.K T W s)) (hg : Gl X "enumerate" := by rfl) (hs : starEach [e] X.env = [(false, eval e X.env)] := by rfl) :
    PI X (.Tuple elts kk tpos) (.Call (.Name "enumerate" p) [e] [] pos) (upI X.K T W (iEnumA s)) := PIi (pi_enumT hg hm ha hs) fun σ H R h => by
  obtain ⟨F, G, δ, Xc, Qd, Rl, hr, hx, k⟩ := h
  refine ⟨F, G, δ, Xc, _, Rl, hr, hx, fun G1 H1 vs ds δ1 e1 R1 p1 q1 => ?_⟩
  split at q1
  · obtain ⟨v, rfl, a, us, rfl, h1, h2⟩ := one_of p1
    exact ⟨a, us, rfl, .inl ⟨ex_lt R1.ex h1, k G1 H1 _ _ δ1 e1 R1 (itok_e (SqL.of h1) h2) q1⟩⟩
  · obtain ⟨v, rfl, a, us, rfl, h1, h2⟩ := one_of p1
    exact ⟨a, us, rfl, .inl ⟨ex_l R1.ex h1, k G1 H1 _ _ δ1 e1 R1 (itok_e h1 h2) q1⟩⟩
  · obtain ⟨v, rfl, a, us, rfl, h1, h2⟩ := one_of p1
    exact ⟨a, us, rfl, .inr ⟨ex_t R1.ex h1, k G1 H1 _ _ δ1 e1 R1 (itok_et h1 h2) q1⟩⟩
  · exact q1.elim
end DL


set_option Elab.async false
set_option linter.all false
set_option maxRecDepth 100000
set_option maxHeartbeats 1000000
namespace DL
open PySem PySem.Spec PyProof.Rows L2
/-! ### promises of small defs that stand in many of the laws -/
def dInt : D → Bool
  | .int _ => true
  | _ => false
def within (lo hi : Int) : D → Bool
  | .int i => decide (lo ≤ i) && decide (i ≤ hi)
  | _ => false
def S_is_integer : FS
  | [x], Q, _ => noq x = true ∧ Q (.d (.bl (dInt x)))
  | _, _, _ => False
def S_is_within : FS
  | [x, .int lo, .int hi], Q, _ => noq x = true ∧ Q (.d (.bl (within lo hi x)))
  | _, _, _ => False
def isTupN (n : Int) : D → Bool
  | .tup xs => decide ((xs.length : Int) = n)
  | _ => false
def S_is_tuple_of : FS
  | [x, .int n], Q, _ => noq x = true ∧ Q (.d (.bl (isTupN n x)))
  | _, _, _ => False
def S_common : FS
  | [.int a, .int b], Q, _ => Q (.d (.int (Int.gcd a b)))
  | _, _, _ => False
def noqs : D → Bool
  | .opq _ => false
  | .tup xs => xs.all noq
  | _ => true
def isFrac : D → Bool
  | .tup [.int a, .int b] => decide (1 ≤ b) && decide (Int.gcd a b = 1)
  | _ => false
def S_is_fraction : FS
  | [x], Q, _ => noqs x = true ∧ Q (.d (.bl (isFrac x)))
  | _, _, _ => False
/-- the law's hand: what is drawn from -/
def isHand (xs : List D) : Prop := ∃ (cells : List Int) (pos : Nat) (rest mix cnt : Int), xs = [.lst (cells.map D.int), .int (pos : Int), .int rest, .int mix, .int cnt] ∧ 0 ≤ rest ∧ 0 ≤ mix ∧ 0 ≤ cnt ∧ ∀ c ∈ cells, 0 ≤ c
theorem isHand_new {cells : List Int} {m : Int} (h0 : 0 ≤ m) (h : ∀ c ∈ cells, 0 ≤ c) : isHand [.lst (cells.map D.int), .int 0, .int 0, .int m, .int 0] := ⟨cells, 0, 0, m, 0, rfl, by omega, h0, by omega, h⟩
def S__law_hand : FS
  | [.sq xs], Q, _ => ∃ ns : List Int, xs = ns.map D.int ∧ ns.length ≤ 63 ∧ ∀ ys, isHand ys → Q (.f ys)
  | _, _, _ => False
def S__law_draw : FSB := fun xs ds Q _ => match ds with
  | [.int many] => isHand xs ∧ 1 ≤ many ∧ many.natAbs < 2 ^ 9000 ∧ ∀ (r : Int) ys, 0 ≤ r → r < many → isHand ys → Q (.d (.int r)) ys
  | _ => False
def S__law_any : FSB := fun xs ds Q _ => match ds with
  | [.lst ts] => isHand xs ∧ 1 ≤ ts.length ∧ ts.length ≤ 100000 ∧ ∀ x ∈ ts, ∀ ys, isHand ys → Q (.d x) ys
  | [.tup ts] => isHand xs ∧ 1 ≤ ts.length ∧ ts.length ≤ 100000 ∧ ∀ x ∈ ts, ∀ ys, isHand ys → Q (.d x) ys
  | [.str z] => isHand xs ∧ 1 ≤ z.length ∧ z.length ≤ 100000 ∧ ∀ c ∈ z.cps.toList, ∀ ys, isHand ys → Q (.d (.str ⟨#[c]⟩)) ys
  | _ => False
def S__law_some : FSB := S__law_any
section
variable {xs ts : List D} {z : Str} {many : Int} {Q : Rf → List D → Prop} {E : Addr → List D → Prop}
theorem r_any_l : S__law_any xs [.lst ts] Q E = (isHand xs ∧ 1 ≤ ts.length ∧ ts.length ≤ 100000 ∧ ∀ x ∈ ts, ∀ ys, isHand ys → Q (.d x) ys) := rfl
theorem r_any_t2 : S__law_any xs [.tup ts] Q E = (isHand xs ∧ 1 ≤ ts.length ∧ ts.length ≤ 100000 ∧ ∀ x ∈ ts, ∀ ys, isHand ys → Q (.d x) ys) := rfl
theorem r_any_s : S__law_any xs [.str z] Q E = (isHand xs ∧ 1 ≤ z.length ∧ z.length ≤ 100000 ∧ ∀ c ∈ z.cps.toList, ∀ ys, isHand ys → Q (.d (.str ⟨#[c]⟩)) ys) := rfl
theorem r_some_l : S__law_some xs [.lst ts] Q E = (isHand xs ∧ 1 ≤ ts.length ∧ ts.length ≤ 100000 ∧ ∀ x ∈ ts, ∀ ys, isHand ys → Q (.d x) ys) := rfl
theorem r_some_t2 : S__law_some xs [.tup ts] Q E = (isHand xs ∧ 1 ≤ ts.length ∧ ts.length ≤ 100000 ∧ ∀ x ∈ ts, ∀ ys, isHand ys → Q (.d x) ys) := rfl
theorem r_some_s : S__law_some xs [.str z] Q E = (isHand xs ∧ 1 ≤ z.length ∧ z.length ≤ 100000 ∧ ∀ c ∈ z.cps.toList, ∀ ys, isHand ys → Q (.d (.str ⟨#[c]⟩)) ys) := rfl
theorem r_draw : S__law_draw xs [.int many] Q E = (isHand xs ∧ 1 ≤ many ∧ many.natAbs < 2 ^ 9000 ∧ ∀ (r : Int) ys, 0 ≤ r → r < many → isHand ys → Q (.d (.int r)) ys) := rfl
end
/-- data without dicts, nested to a depth -/
def isP : Nat → D → Bool
  | _, .non => true
  | _, .bl _ => true
  | _, .int _ => true
  | _, .str _ => true
  | n + 1, .lst xs => decide (xs.length ≤ sizeLine) && xs.all (isP n)
  | n + 1, .tup xs => decide (xs.length ≤ sizeLine) && xs.all (isP n)
  | _, _ => false
/-- two things that are the same -/
def S__law_is : Nat → FS
  | n + 1, [x, y], Q, _ => x = y ∧ isP n x = true ∧ Q (.d (.bl true))
  | _, _, _, _ => False
theorem isP_ints {n : Nat} (ns : List Int) (h : ns.length ≤ sizeLine) : isP (n + 1) (.tup (ns.map D.int)) = true := by
  unfold isP
  rw [List.length_map, decide_eq_true h, Bool.true_and, List.all_eq_true]
  intro x hx
  obtain ⟨i, _, rfl⟩ := List.mem_map.mp hx
  cases n <;> rfl
theorem isP_intsL {n : Nat} (ns : List Int) (h : ns.length ≤ sizeLine) : isP (n + 1) (.lst (ns.map D.int)) = true := isP_ints (n := n) ns h
theorem isP_tup {n : Nat} {xs : List D} (h : xs.length ≤ sizeLine) (h2 : ∀ x ∈ xs, isP n x = true) : isP (n + 1) (.tup xs) = true := by
  unfold isP
  rw [decide_eq_true h, Bool.true_and, List.all_eq_true]
  exact h2
theorem isP_lst {n : Nat} {xs : List D} (h : xs.length ≤ sizeLine) (h2 : ∀ x ∈ xs, isP n x = true) : isP (n + 1) (.lst xs) = true := isP_tup h h2
theorem isP_int {n : Nat} (i : Int) : isP n (.int i) = true := by cases n <;> rfl
theorem isP_bl {n : Nat} (i : Bool) : isP n (.bl i) = true := by cases n <;> rfl
theorem isP_str {n : Nat} (i : Str) : isP n (.str i) = true := by cases n <;> rfl
theorem isP_non {n : Nat} : isP n .non = true := by cases n <;> rfl
theorem l_is_integer : ∀ ds Qd Ed, S_is_integer ds Qd Ed → ds.length = 1 := by
  intro ds Qd Ed h; unfold S_is_integer at h; split at h <;> first | rfl | exact h.elim
theorem l_is_within : ∀ ds Qd Ed, S_is_within ds Qd Ed → ds.length = 3 := by
  intro ds Qd Ed h; unfold S_is_within at h; split at h <;> first | rfl | exact h.elim
theorem l_is_tuple_of : ∀ ds Qd Ed, S_is_tuple_of ds Qd Ed → ds.length = 2 := by
  intro ds Qd Ed h; unfold S_is_tuple_of at h; split at h <;> first | rfl | exact h.elim
theorem l_common : ∀ ds Qd Ed, S_common ds Qd Ed → ds.length = 2 := by
  intro ds Qd Ed h; unfold S_common at h; split at h <;> first | rfl | exact h.elim
theorem l_is_fraction : ∀ ds Qd Ed, S_is_fraction ds Qd Ed → ds.length = 1 := by
  intro ds Qd Ed h; unfold S_is_fraction at h; split at h <;> first | rfl | exact h.elim
theorem l__law_hand : ∀ ds Qd Ed, S__law_hand ds Qd Ed → ds.length = 1 := by
  intro ds Qd Ed h; unfold S__law_hand at h; split at h <;> first | rfl | exact h.elim
theorem l__law_draw : ∀ xs ds Qd Ed, S__law_draw xs ds Qd Ed → ds.length + 1 = 2 := by
  intro xs ds Qd Ed h; unfold S__law_draw at h; split at h <;> first | rfl | exact h.elim
theorem l__law_any : ∀ xs ds Qd Ed, S__law_any xs ds Qd Ed → ds.length + 1 = 2 := by
  intro xs ds Qd Ed h; unfold S__law_any at h; split at h <;> first | rfl | exact h.elim
theorem l__law_some : ∀ xs ds Qd Ed, S__law_some xs ds Qd Ed → ds.length + 1 = 2 := l__law_any
theorem l__law_is {n : Nat} : ∀ ds Qd Ed, S__law_is n ds Qd Ed → ds.length = 2 := by
  intro ds Qd Ed h; unfold S__law_is at h; split at h <;> first | rfl | exact h.elim
def rd_is_integer : DS := sRet (dAnd (dCB (gIsi "int") (aCons (dVar 0) (aCons (dC (.opq (.ty "int"))) aNil))) (dNot (dCB (gIsi "bool") (aCons (dVar 0) (aCons (dC (.opq (.ty "bool"))) aNil)))))
def rd_is_within : DS := sRet (dAnd (dCall S_is_integer (aCons (dVar 0) aNil)) (dChain fLe fLe (dVar 1) (dVar 0) (dVar 2)))
def rd_is_tuple_of : DS := sRet (dAnd (dCB (gIsi "tuple") (aCons (dVar 0) (aCons (dC (.opq (.ty "tuple"))) aNil))) (dBin fEq (dCB gLen (aCons (dVar 0) aNil)) (dVar 1)))
def rd_common : DS := (sSeq (sPar 0 1 (aCons (dCB gAbs (aCons (dVar 0) aNil)) (aCons (dCB gAbs (aCons (dVar 1) aNil)) aNil)))
  (sSeq (sWhile (dB (dBin fGt (dVar 1) (dC (.int 0)))) (sPar 0 1 (aCons (dVar 1) (aCons (dBin fMod (dVar 0) (dVar 1)) aNil))))
  (sRet (dVar 0))))
def rd_is_fraction : DS := (sSeq (sIf (dOrT (dNotT (dB (dCall S_is_tuple_of (aCons (dVar 0) (aCons (dC (.int 2)) aNil))))) (dOrT (dNotT (dB (dCall S_is_integer (aCons (dBin fIx (dVar 0) (dC (.int 0))) aNil)))) (dNotT (dB (dCall S_is_integer (aCons (dBin fIx (dVar 0) (dC (.int 1))) aNil)))))) (sRet (dC (.bl false))) sSkip)
  (sRet (dAnd (dBin fGe (dBin fIx (dVar 0) (dC (.int 1))) (dC (.int 1))) (dBin fEq (dCall S_common (aCons (dBin fIx (dVar 0) (dC (.int 0))) (aCons (dBin fIx (dVar 0) (dC (.int 1))) aNil))) (dC (.int 1))))))
end DL
local macro_rules | `(tactic| walk_at "dl") => `(tactic| try simp only [DL.sSkip, DL.sSeq, DL.sCut, DL.sSet, DL.sSetF, DL.sPar, DL.sPar3, DL.sAsg, DL.sDrop, DL.sRet, DL.sRetF, DL.sRetO, DL.sRetN, DL.sBreak, DL.sCont, DL.sIf, DL.sRaise, DL.sAug, DL.dC, DL.dVar, DL.dBin, DL.aNil, DL.aCons, DL.dTup, DL.fLst, DL.dF, DL.dCB, DL.fCB, DL.dCall, DL.fCall, DL.dCallO, DL.fCallO, DL.rvD, DL.rvF, DL.dChain, DL.dB, DL.dTru, DL.dAndT, DL.dOrT, DL.dNotT, DL.dAnd, DL.dOr, DL.dNot, DL.dIfE, DL.dNeg, DL.dIxO, DL.sApp, DL.sSetIx, DL.dSl, DL.fSlL, DL.oNone, DL.oSome, DL.fCatL, DL.fRepL, DL.endA, DL.endB, DL.argsD, DL.Rv.out, DL.dPeek, DL.dPeekT, DL.frz, DL.gN, DL.gT, DL.gLs, DL.iSeq, DL.iR1, DL.iR2, DL.wipeD, DL.backD, DL.keepD, DL.fLc, DL.sFor, DL.dDic0, DL.dIsT, DL.fIfE, DL.fRevL, DL.iR3, DL.dPop, DL.dPopAt, DL.sRev, DL.sExt, DL.sAugIx, DL.sSetH, DL.sSetH1, DL.dHGet, DL.dHIn, DL.sHPut, DL.dHGetD, DL.dHLen, DL.fHKeys, DL.sFz, DL.sFzH, DL.fRng1, DL.fRng2, DL.dTupRev, DL.dRevSl, DL.fRevSl, DL.iRevD, DL.iEnumD, DL.iEnumA, DL.iZipD, DL.sMPar, DL.r_shl, DL.r_shr, DL.setMx, DL.mNil, DL.mD, DL.mN, DL.nF, DL.nH0, DL.nH1, DL.Ct.sl, DL.sParDF, DL.sParFD, DL.sParFF, DL.sSetDc, DL.isB_int_d, DL.isB_bool_d, DL.isB_tuple_d, DL.isB_list_d, DL.isB_str_d, DL.isB_dict_d, DL.noq_d, DL.r_any_l, DL.r_any_t2, DL.r_any_s, DL.r_some_l, DL.r_some_t2, DL.r_some_s, DL.r_draw, DL.isB_int_q, DL.isB_bool_q, DL.isB_tuple_q, DL.isB_list_q, DL.isB_str_q, DL.isB_dict_q, DL.r_is_dn, DL.r_isnt_dn, ite_true, ite_false, if_true, if_false, List.any_cons, List.any_nil, Bool.or_false, Bool.false_or, Bool.true_or, Bool.or_true,
 
  DL.r_add_i, DL.r_add_s, DL.r_add_t, DL.r_sub, DL.r_mul, DL.r_mod, DL.r_div, DL.r_pow, DL.r_lt, DL.r_le, DL.r_gt, DL.r_ge, DL.r_augp, DL.r_augm, DL.r_eq_nn, DL.r_ne_nn, DL.r_eq_nb, DL.r_ne_nb, DL.r_eq_ni, DL.r_ne_ni, DL.r_eq_ns, DL.r_ne_ns, DL.r_eq_bn, DL.r_ne_bn, DL.r_eq_bb, DL.r_ne_bb, DL.r_eq_in, DL.r_ne_in, DL.r_eq_ii, DL.r_ne_ii, DL.r_eq_is, DL.r_ne_is, DL.r_eq_sn, DL.r_ne_sn, DL.r_eq_si, DL.r_ne_si, DL.r_eq_ss, DL.r_ne_ss, DL.r_eq_ll, DL.r_ne_ll, DL.r_eq_lt, DL.r_ne_lt, DL.r_eq_ln, DL.r_ne_ln, DL.r_eq_li, DL.r_ne_li, DL.r_eq_ls, DL.r_ne_ls, DL.r_eq_lb, DL.r_ne_lb, DL.r_eq_nl2, DL.r_ne_nl2, DL.r_eq_il2, DL.r_ne_il2, DL.r_eq_sl2, DL.r_ne_sl2, DL.r_eq_bl2, DL.r_ne_bl2, DL.r_eq_tl, DL.r_ne_tl, DL.r_eq_tt, DL.r_ne_tt, DL.r_eq_tn, DL.r_ne_tn, DL.r_eq_ti, DL.r_ne_ti, DL.r_eq_ts, DL.r_ne_ts, DL.r_eq_tb, DL.r_ne_tb, DL.r_eq_nt2, DL.r_ne_nt2, DL.r_eq_it2, DL.r_ne_it2, DL.r_eq_st2, DL.r_ne_st2, DL.r_eq_bt2, DL.r_ne_bt2, DL.r_is_bb, DL.r_isnt_bb, DL.r_is_nn, DL.r_isnt_nn, DL.r_is_in, DL.r_isnt_in, DL.r_is_sn, DL.r_isnt_sn, DL.r_is_ln, DL.r_isnt_ln, DL.r_is_tn, DL.r_isnt_tn, DL.r_is_bn, DL.r_isnt_bn, DL.r_ix_l, DL.r_ix_t, DL.at0, DL.at1, DL.at2, DL.at3, DL.at4, DL.ixn10, DL.ixn20, DL.ixn21, DL.ixn30, DL.ixn31, DL.ixn32, DL.ixn40, DL.ixn41, DL.ixn42, DL.ixn43, DL.ixn50, DL.ixn51, DL.ixn52, DL.ixn53, DL.ixn54, DL.r_sl_t, DL.r_sl_l, DL.r_sl_q, DL.r_len_l, DL.r_len_t, DL.r_len_s, DL.r_abs, DL.r_int_i, DL.r_int_b, DL.r_max2, DL.r_min2, DL.r_sum, DL.r_any, DL.r_all, DL.r_tuple_l, DL.r_tuple_t, DL.r_list_l, DL.r_list_t, DL.r_isi, DL.noq_n, DL.noq_b, DL.noq_i, DL.noq_s, DL.noq_l, DL.noq_t, DL.noq_q, DL.tru_n, DL.tru_b, DL.tru_i, DL.tru_l, DL.tru_t, DL.isB_int_n, DL.isB_int_b, DL.isB_int_i, DL.isB_int_s, DL.isB_int_l, DL.isB_int_t, DL.isB_bool_n, DL.isB_bool_b, DL.isB_bool_i, DL.isB_bool_s, DL.isB_bool_l, DL.isB_bool_t, DL.isB_tuple_n, DL.isB_tuple_b, DL.isB_tuple_i, DL.isB_tuple_s, DL.isB_tuple_l, DL.isB_tuple_t, DL.isB_list_n, DL.isB_list_b, DL.isB_list_i, DL.isB_list_s, DL.isB_list_l, DL.isB_list_t, DL.isB_str_n, DL.isB_str_b, DL.isB_str_i, DL.isB_str_s, DL.isB_str_l, DL.isB_str_t, DL.isB_dict_n, DL.isB_dict_b, DL.isB_dict_i, DL.isB_dict_s, DL.isB_dict_l, DL.isB_dict_t,
  List.map_cons, List.map_nil, List.length_cons, List.length_nil, List.cons_append, List.nil_append, List.replicate_succ, List.replicate_zero, Nat.sub_self, Nat.add_one_sub_one, Nat.zero_add, Nat.reduceAdd, Nat.reduceSub, Int.cast_ofNat_Int, List.getElem?_cons_zero, List.getElem?_cons_succ, List.set_cons_zero, List.set_cons_succ, true_and, and_true, decide_eq_true_eq, decide_eq_false_iff_not, forall_const, false_implies, true_implies, reduceCtorEq, implies_true, Bool.true_eq_false, Bool.false_eq_true, Bool.not_true, Bool.not_false, Bool.not_eq_true', Bool.not_eq_false', bne_self_eq_false, beq_self_eq_true, Option.some.injEq, exists_eq_left', exists_eq_left, ne_eq, not_false_eq_true, not_true_eq_false])
namespace DL
open PySem PySem.Spec PyProof.Rows L2
theorem hd_is_integer (ds : List D) (Qd : Rf → Prop) (Ed : Addr → Prop) (hn : ds.length = 1) (h : S_is_integer ds Qd Ed) : rd_is_integer (endA Qd Ed) (argsD 1 ds) := by
  unfold S_is_integer at h
  split at h
  · rename_i x
    unfold rd_is_integer
    obtain ⟨h1, h2⟩ := h
    walk_at "dl"
    cases x <;> first | exact absurd (show false = true from h1) (by decide) | (simp only [dInt] at h2; walk_at "dl"; exact h2) | (simp only [dInt] at h2; exact ⟨rfl, fun h => absurd h (by simp [isB, tyN]), fun _ => h2⟩)
  · exact h.elim
theorem hd_is_within (ds : List D) (Qd : Rf → Prop) (Ed : Addr → Prop) (hn : ds.length = 3) (h : S_is_within ds Qd Ed) : rd_is_within (endA Qd Ed) (argsD 3 ds) := by
  unfold S_is_within at h
  split at h
  · rename_i x lo hi
    unfold rd_is_within
    obtain ⟨h1, h2⟩ := h
    walk_at "dl"
    unfold S_is_integer
    refine ⟨h1, ?_⟩
    walk_at "dl"
    cases x <;> first | exact absurd (show false = true from h1) (by decide) | skip
    case int i =>
      simp only [within] at h2
      simp only [dInt]
      walk_at "dl"
      refine ⟨fun h => ?_, fun h => ?_⟩
      · rw [decide_eq_true h, Bool.true_and] at h2
        exact h2
      · rw [decide_eq_false h, Bool.false_and] at h2
        exact h2
    all_goals (simp only [within] at h2; exact ⟨fun h => absurd h (by simp [dInt]), fun _ => h2⟩)
  · exact h.elim
theorem hd_is_tuple_of (ds : List D) (Qd : Rf → Prop) (Ed : Addr → Prop) (hn : ds.length = 2) (h : S_is_tuple_of ds Qd Ed) : rd_is_tuple_of (endA Qd Ed) (argsD 2 ds) := by
  unfold S_is_tuple_of at h
  split at h
  · rename_i x n
    unfold rd_is_tuple_of
    obtain ⟨h1, h2⟩ := h
    walk_at "dl"
    cases x <;> first | exact absurd (show false = true from h1) (by decide) | skip
    case tup xs =>
      walk_at "dl"
      simp only [isTupN] at h2
      exact h2
    all_goals (simp only [isTupN] at h2; exact ⟨rfl, fun h => absurd h (by simp [isB, tyN]), fun _ => h2⟩)
  · exact h.elim
theorem gcd_step (x y : Int) (hx : 0 ≤ x) (hy : 0 < y) : Int.gcd y (x.fmod y) = Int.gcd x y := by
  obtain ⟨n, rfl⟩ := Int.eq_ofNat_of_zero_le hx
  obtain ⟨m, rfl⟩ := Int.eq_ofNat_of_zero_le (Int.le_of_lt hy)
  rw [Int.fmod_eq_emod_of_nonneg _ (by omega)]
  show Nat.gcd m (n % m) = Nat.gcd n m
  rw [Nat.gcd_comm, ← Nat.gcd_rec, Nat.gcd_comm]
theorem hd_common (ds : List D) (Qd : Rf → Prop) (Ed : Addr → Prop) (hn : ds.length = 2) (h : S_common ds Qd Ed) : rd_common (endA Qd Ed) (argsD 2 ds) := by
  unfold S_common at h
  split at h
  · rename_i a b
    unfold rd_common
    walk_at "dl"
    unfold sWhile
    refine ⟨fun m δ => ∃ x y : Int, δ = [.d (.int x), .d (.int y)] ∧ 0 ≤ x ∧ 0 ≤ y ∧ m = y.toNat ∧ Int.gcd x y = Int.gcd a b, ⟨_, _, _, rfl, ?_, ?_, rfl, ?_⟩, ?_⟩
    · split <;> omega
    · split <;> omega
    · have e1 : ∀ z : Int, (if z < 0 then -z else z) = (z.natAbs : Int) := fun z => by split <;> omega
      rw [e1, e1]
      simp [Int.gcd]
    · rintro m δ1 ⟨x, y, rfl, hx, hy, rfl, hg⟩
      walk_at "dl"
      refine ⟨fun h1 => ⟨by omega, ?_⟩, fun h1 => ?_⟩
      · have h3 : 0 ≤ x.fmod y := by rw [Int.fmod_eq_emod_of_nonneg x hy]; exact Int.emod_nonneg _ (by omega)
        have h4 : x.fmod y < y := by rw [Int.fmod_eq_emod_of_nonneg x hy]; exact Int.emod_lt_of_pos _ h1
        exact ⟨(x.fmod y).toNat, by omega, y, x.fmod y, rfl, hy, h3, rfl, by rw [gcd_step x y hx h1]; exact hg⟩
      · have : y = 0 := by omega
        subst this
        rw [Int.gcd_zero_right] at hg
        have e : (x : Int) = (Int.gcd a b : Int) := by rw [← hg]; omega
        rw [e]
        exact h
  · exact h.elim
theorem noq_noqs {x : D} (h : noqs x = true) : noq x = true := by cases x <;> first | rfl | exact absurd (show false = true from h) (by decide)
theorem tup2 {x : D} (h : isTupN 2 x = true) : ∃ a b, x = .tup [a, b] := by
  cases x <;> first | exact absurd (show false = true from h) (by decide) | skip
  rename_i xs
  have h : (xs.length : Int) = 2 := of_decide_eq_true h
  match xs, h with
  | [a, b], _ => exact ⟨a, b, rfl⟩
  | [], h => exact absurd h (by decide)
  | [_], h => exact absurd h (by simp only [List.length_cons, List.length_nil]; decide)
  | _ :: _ :: _ :: r, h => simp only [List.length_cons] at h; omega
theorem hd_is_fraction (ds : List D) (Qd : Rf → Prop) (Ed : Addr → Prop) (hn : ds.length = 1) (h : S_is_fraction ds Qd Ed) : rd_is_fraction (endA Qd Ed) (argsD 1 ds) := by
  unfold S_is_fraction at h
  split at h
  · rename_i x
    obtain ⟨h1, h2⟩ := h
    unfold rd_is_fraction
    walk_at "dl"
    unfold S_is_tuple_of
    refine ⟨noq_noqs h1, ?_⟩
    walk_at "dl"
    refine ⟨fun hf => ?_, fun ht => ?_⟩
    · have e : isFrac x = false := by
        cases x <;> first | rfl | skip
        rename_i xs
        unfold isFrac
        split
        · rename_i a b h
          cases h
          exact absurd hf (by simp [isTupN])
        · rfl
      rw [e] at h2
      exact h2
    · obtain ⟨a, b, rfl⟩ := tup2 ht
      have h1 : (noq a && (noq b && true)) = true := h1
      simp only [Bool.and_eq_true, and_true] at h1
      obtain ⟨na, nb⟩ := h1
      walk_at "dl"
      simp only [S_is_integer]
      refine ⟨na, ?_⟩
      walk_at "dl"
      refine ⟨fun hf => ?_, fun hi => ?_⟩
      · have e : isFrac (.tup [a, b]) = false := by cases a <;> first | rfl | exact absurd hf (by simp [dInt])
        rw [e] at h2
        exact h2
      refine ⟨nb, ?_⟩
      walk_at "dl"
      refine ⟨fun hf => ?_, fun hj => ?_⟩
      · have e : isFrac (.tup [a, b]) = false := by cases a <;> cases b <;> first | rfl | exact absurd hf (by simp [dInt])
        rw [e] at h2
        exact h2
      cases a <;> first | (exfalso; simp [dInt] at hi; done) | skip
      cases b <;> first | (exfalso; simp [dInt] at hj; done) | skip
      rename_i a b
      simp only [isFrac] at h2
      simp only [S_common]
      walk_at "dl"
      refine ⟨fun h => ?_, fun h => ?_⟩
      · rw [decide_eq_true h, Bool.true_and] at h2
        have e : decide (Int.gcd a b = 1) = decide ((Int.gcd a b : Int) = 1) := by
          rw [decide_eq_decide]; omega
        rw [← e]
        exact h2
      · rw [decide_eq_false h, Bool.false_and] at h2
        exact h2
  · exact h.elim
end DL


set_option Elab.async false
set_option linter.all false
set_option maxRecDepth 100000
set_option maxHeartbeats 1000000
namespace DL
open PySem PySem.Spec PyProof.Rows L2
def isInts : D → Bool
  | .tup xs => xs.all dInt
  | _ => false
def dCount : D → Bool
  | .int i => decide (0 ≤ i)
  | _ => false
def isCounts : D → Bool
  | .tup xs => xs.all dCount
  | _ => false
def S_are_integers : FS
  | [x], Q, _ => noqs x = true ∧ (∀ xs, x = .tup xs → xs.length ≤ sizeLine) ∧ Q (.d (.bl (isInts x)))
  | _, _, _ => False
def S_are_counts : FS
  | [x], Q, _ => noqs x = true ∧ (∀ xs, x = .tup xs → xs.length ≤ sizeLine) ∧ Q (.d (.bl (isCounts x)))
  | _, _, _ => False
theorem l_are_integers : ∀ ds Qd Ed, S_are_integers ds Qd Ed → ds.length = 1 := by
  intro ds Qd Ed h; unfold S_are_integers at h; split at h <;> first | rfl | exact h.elim
theorem l_are_counts : ∀ ds Qd Ed, S_are_counts ds Qd Ed → ds.length = 1 := by
  intro ds Qd Ed h; unfold S_are_counts at h; split at h <;> first | rfl | exact h.elim
def rd_are_integers : DS := sRet (dAnd (dCB (gIsi "tuple") (aCons (dVar 0) (aCons (dC (.opq (.ty "tuple"))) aNil))) (dCB gAll (aCons (dF (fLc (iSeq (dVar 0)) (gN 1) tYesD (dCall S_is_integer (aCons (dVar 1) aNil)) [1])) aNil)))
def rd_are_counts : DS := sRet (dAnd (dCall S_are_integers (aCons (dVar 0) aNil)) (dCB gAll (aCons (dF (fLc (iSeq (dVar 0)) (gN 1) tYesD (dBin fGe (dVar 1) (dC (.int 0))) [1])) aNil)))
end DL
local macro_rules | `(tactic| walk_at "dl") => `(tactic| try simp only [DL.sSkip, DL.sSeq, DL.sCut, DL.sSet, DL.sSetF, DL.sPar, DL.sPar3, DL.sAsg, DL.sDrop, DL.sRet, DL.sRetF, DL.sRetO, DL.sRetN, DL.sBreak, DL.sCont, DL.sIf, DL.sRaise, DL.sAug, DL.dC, DL.dVar, DL.dBin, DL.aNil, DL.aCons, DL.dTup, DL.fLst, DL.dF, DL.dCB, DL.fCB, DL.dCall, DL.fCall, DL.dCallO, DL.fCallO, DL.rvD, DL.rvF, DL.dChain, DL.dB, DL.dTru, DL.dAndT, DL.dOrT, DL.dNotT, DL.dAnd, DL.dOr, DL.dNot, DL.dIfE, DL.dNeg, DL.dIxO, DL.sApp, DL.sSetIx, DL.dSl, DL.fSlL, DL.oNone, DL.oSome, DL.fCatL, DL.fRepL, DL.endA, DL.endB, DL.argsD, DL.Rv.out, DL.dPeek, DL.dPeekT, DL.frz, DL.gN, DL.gT, DL.gLs, DL.iSeq, DL.iR1, DL.iR2, DL.wipeD, DL.backD, DL.keepD, DL.fLc, DL.sFor, DL.dDic0, DL.dIsT, DL.fIfE, DL.fRevL, DL.iR3, DL.dPop, DL.dPopAt, DL.sRev, DL.sExt, DL.sAugIx, DL.sSetH, DL.sSetH1, DL.dHGet, DL.dHIn, DL.sHPut, DL.dHGetD, DL.dHLen, DL.fHKeys, DL.sFz, DL.sFzH, DL.fRng1, DL.fRng2, DL.dTupRev, DL.dRevSl, DL.fRevSl, DL.iRevD, DL.iEnumD, DL.iEnumA, DL.iZipD, DL.sMPar, DL.r_shl, DL.r_shr, DL.setMx, DL.mNil, DL.mD, DL.mN, DL.nF, DL.nH0, DL.nH1, DL.Ct.sl, DL.sParDF, DL.sParFD, DL.sParFF, DL.sSetDc, DL.isB_int_d, DL.isB_bool_d, DL.isB_tuple_d, DL.isB_list_d, DL.isB_str_d, DL.isB_dict_d, DL.noq_d, DL.r_any_l, DL.r_any_t2, DL.r_any_s, DL.r_some_l, DL.r_some_t2, DL.r_some_s, DL.r_draw, DL.isB_int_q, DL.isB_bool_q, DL.isB_tuple_q, DL.isB_list_q, DL.isB_str_q, DL.isB_dict_q, DL.r_is_dn, DL.r_isnt_dn, ite_true, ite_false, if_true, if_false, List.any_cons, List.any_nil, Bool.or_false, Bool.false_or, Bool.true_or, Bool.or_true,
 
  DL.r_add_i, DL.r_add_s, DL.r_add_t, DL.r_sub, DL.r_mul, DL.r_mod, DL.r_div, DL.r_pow, DL.r_lt, DL.r_le, DL.r_gt, DL.r_ge, DL.r_augp, DL.r_augm, DL.r_eq_nn, DL.r_ne_nn, DL.r_eq_nb, DL.r_ne_nb, DL.r_eq_ni, DL.r_ne_ni, DL.r_eq_ns, DL.r_ne_ns, DL.r_eq_bn, DL.r_ne_bn, DL.r_eq_bb, DL.r_ne_bb, DL.r_eq_in, DL.r_ne_in, DL.r_eq_ii, DL.r_ne_ii, DL.r_eq_is, DL.r_ne_is, DL.r_eq_sn, DL.r_ne_sn, DL.r_eq_si, DL.r_ne_si, DL.r_eq_ss, DL.r_ne_ss, DL.r_eq_ll, DL.r_ne_ll, DL.r_eq_lt, DL.r_ne_lt, DL.r_eq_ln, DL.r_ne_ln, DL.r_eq_li, DL.r_ne_li, DL.r_eq_ls, DL.r_ne_ls, DL.r_eq_lb, DL.r_ne_lb, DL.r_eq_nl2, DL.r_ne_nl2, DL.r_eq_il2, DL.r_ne_il2, DL.r_eq_sl2, DL.r_ne_sl2, DL.r_eq_bl2, DL.r_ne_bl2, DL.r_eq_tl, DL.r_ne_tl, DL.r_eq_tt, DL.r_ne_tt, DL.r_eq_tn, DL.r_ne_tn, DL.r_eq_ti, DL.r_ne_ti, DL.r_eq_ts, DL.r_ne_ts, DL.r_eq_tb, DL.r_ne_tb, DL.r_eq_nt2, DL.r_ne_nt2, DL.r_eq_it2, DL.r_ne_it2, DL.r_eq_st2, DL.r_ne_st2, DL.r_eq_bt2, DL.r_ne_bt2, DL.r_is_bb, DL.r_isnt_bb, DL.r_is_nn, DL.r_isnt_nn, DL.r_is_in, DL.r_isnt_in, DL.r_is_sn, DL.r_isnt_sn, DL.r_is_ln, DL.r_isnt_ln, DL.r_is_tn, DL.r_isnt_tn, DL.r_is_bn, DL.r_isnt_bn, DL.r_ix_l, DL.r_ix_t, DL.at0, DL.at1, DL.at2, DL.at3, DL.at4, DL.ixn10, DL.ixn20, DL.ixn21, DL.ixn30, DL.ixn31, DL.ixn32, DL.ixn40, DL.ixn41, DL.ixn42, DL.ixn43, DL.ixn50, DL.ixn51, DL.ixn52, DL.ixn53, DL.ixn54, DL.r_sl_t, DL.r_sl_l, DL.r_sl_q, DL.r_len_l, DL.r_len_t, DL.r_len_s, DL.r_abs, DL.r_int_i, DL.r_int_b, DL.r_max2, DL.r_min2, DL.r_sum, DL.r_any, DL.r_all, DL.r_tuple_l, DL.r_tuple_t, DL.r_list_l, DL.r_list_t, DL.r_isi, DL.noq_n, DL.noq_b, DL.noq_i, DL.noq_s, DL.noq_l, DL.noq_t, DL.noq_q, DL.tru_n, DL.tru_b, DL.tru_i, DL.tru_l, DL.tru_t, DL.isB_int_n, DL.isB_int_b, DL.isB_int_i, DL.isB_int_s, DL.isB_int_l, DL.isB_int_t, DL.isB_bool_n, DL.isB_bool_b, DL.isB_bool_i, DL.isB_bool_s, DL.isB_bool_l, DL.isB_bool_t, DL.isB_tuple_n, DL.isB_tuple_b, DL.isB_tuple_i, DL.isB_tuple_s, DL.isB_tuple_l, DL.isB_tuple_t, DL.isB_list_n, DL.isB_list_b, DL.isB_list_i, DL.isB_list_s, DL.isB_list_l, DL.isB_list_t, DL.isB_str_n, DL.isB_str_b, DL.isB_str_i, DL.isB_str_s, DL.isB_str_l, DL.isB_str_t, DL.isB_dict_n, DL.isB_dict_b, DL.isB_dict_i, DL.isB_dict_s, DL.isB_dict_l, DL.isB_dict_t,
  List.map_cons, List.map_nil, List.length_cons, List.length_nil, List.cons_append, List.nil_append, List.replicate_succ, List.replicate_zero, Nat.sub_self, Nat.add_one_sub_one, Nat.zero_add, Nat.reduceAdd, Nat.reduceSub, Int.cast_ofNat_Int, List.getElem?_cons_zero, List.getElem?_cons_succ, List.set_cons_zero, List.set_cons_succ, true_and, and_true, decide_eq_true_eq, decide_eq_false_iff_not, forall_const, false_implies, true_implies, reduceCtorEq, implies_true, Bool.true_eq_false, Bool.false_eq_true, Bool.not_true, Bool.not_false, Bool.not_eq_true', Bool.not_eq_false', bne_self_eq_false, beq_self_eq_true, Option.some.injEq, exists_eq_left', exists_eq_left, ne_eq, not_false_eq_true, not_true_eq_false])
namespace DL
open PySem PySem.Spec PyProof.Rows L2
theorem all_bools (xs : List D) (f : D → Bool) : ∃ bs : List Bool, (xs.map fun x => D.bl (f x)) = bs.map D.bl ∧ bs.all id = xs.all f := ⟨xs.map f, by rw [List.map_map]; rfl, by rw [List.all_map]; rfl⟩
theorem any_bools (xs : List D) (f : D → Bool) : ∃ bs : List Bool, (xs.map fun x => D.bl (f x)) = bs.map D.bl ∧ bs.any id = xs.any f := ⟨xs.map f, by rw [List.map_map]; rfl, by rw [List.any_map]; rfl⟩
theorem ints_of : ∀ {xs : List D}, xs.all dInt = true → ∃ ns : List Int, xs = ns.map D.int
  | [], _ => ⟨[], rfl⟩
  | d :: ds, h => by
    rw [List.all_cons, Bool.and_eq_true] at h
    obtain ⟨ns, rfl⟩ := ints_of h.2
    cases d <;> first | exact absurd (show false = true from h.1) (by decide) | skip
    rename_i i
    exact ⟨i :: ns, rfl⟩
theorem isInts_get {x : D} (h : isInts x = true) : ∃ ns : List Int, x = .tup (ns.map D.int) := by
  unfold isInts at h
  split at h
  · obtain ⟨ns, rfl⟩ := ints_of h
    exact ⟨ns, rfl⟩
  · cases h
theorem isInts_ints (ns : List Int) : isInts (.tup (ns.map D.int)) = true := by
  show (ns.map D.int).all dInt = true
  rw [List.all_map, List.all_eq_true]
  exact fun _ _ => rfl
theorem isCounts_ints (ns : List Int) : isCounts (.tup (ns.map D.int)) = ns.all fun i => decide (0 ≤ i) := by
  show (ns.map D.int).all dCount = _
  rw [List.all_map]; rfl
theorem isCounts_isInts {x : D} (h : isCounts x = true) : isInts x = true := by
  cases x <;> first | exact absurd (show false = true from h) (by decide) | skip
  rename_i xs
  have h : xs.all dCount = true := h
  show xs.all dInt = true
  rw [List.all_eq_true] at h ⊢
  intro d hd
  have := h d hd
  cases d <;> first | rfl | exact absurd (show false = true from this) (by decide)
theorem noqs_ints (ns : List Int) : noqs (.tup (ns.map D.int)) = true := by
  show (ns.map D.int).all noq = true
  rw [List.all_map, List.all_eq_true]
  exact fun _ _ => rfl
theorem hd_are_integers (ds : List D) (Qd : Rf → Prop) (Ed : Addr → Prop) (hn : ds.length = 1) (h : S_are_integers ds Qd Ed) : rd_are_integers (endA Qd Ed) (argsD 2 ds) := by
  unfold S_are_integers at h
  split at h
  · rename_i x
    obtain ⟨h1, h0, h2⟩ := h
    unfold rd_are_integers
    cases x
    case opq v => exact absurd h1 (by simp [noqs])
    case tup xs =>
      walk_at "dl"
      refine lc_map (fun x => .bl (dInt x)) rfl (h0 xs rfl) (fun x P hx hP => ?_) ?_
      · walk_at "dl"
        have h1 : xs.all noq = true := h1
        exact ⟨List.all_eq_true.mp h1 x hx, by walk_at "dl"; exact hP _ rfl⟩
      · walk_at "dl"
        obtain ⟨bs, e1, e2⟩ := all_bools xs dInt
        refine ⟨bs, e1, ?_⟩
        rw [e2]; exact h2
    all_goals (walk_at "dl"; exact h2)
  · exact h.elim
theorem hd_are_counts (ds : List D) (Qd : Rf → Prop) (Ed : Addr → Prop) (hn : ds.length = 1) (h : S_are_counts ds Qd Ed) : rd_are_counts (endA Qd Ed) (argsD 2 ds) := by
  unfold S_are_counts at h
  split at h
  · rename_i x
    obtain ⟨h1, h0, h2⟩ := h
    unfold rd_are_counts
    walk_at "dl"
    simp only [S_are_integers]
    refine ⟨h1, h0, ?_⟩
    walk_at "dl"
    cases hi : isInts x with
    | false =>
      have e : isCounts x = false := by
        cases hc : isCounts x with
        | false => rfl
        | true => rw [isCounts_isInts hc] at hi; cases hi
      rw [e] at h2
      refine ⟨(fun z => nomatch z), fun _ => h2⟩
    | true =>
      obtain ⟨ns, rfl⟩ := isInts_get hi
      refine ⟨fun _ => ?_, fun z => nomatch z⟩
      walk_at "dl"
      refine lc_map (fun x => .bl (dCount x)) rfl (h0 _ rfl) (fun x P hx hP => ?_) ?_
      · obtain ⟨i, _, rfl⟩ := List.mem_map.mp hx
        walk_at "dl"
        exact hP _ rfl
      · walk_at "dl"
        obtain ⟨bs, e1, e2⟩ := all_bools (ns.map D.int) dCount
        refine ⟨bs, e1, ?_⟩
        rw [e2]; exact h2
  · exact h.elim
end DL


set_option Elab.async false
set_option linter.all false
set_option maxRecDepth 100000
namespace DL
open PySem PySem.Spec PyProof.Rows L2
/-- a comprehension with a test -/
theorem lc_flt {δ1 : Ev} {vs : List Nat} {xs : List D} {g : DG} {t : DT} {re : DE} {Q : List D → Ev → Prop} (c : D → Bool) (f : D → D) (hz : xs.length ≤ sizeLine)
    (h : ∀ x ∈ xs, ∀ (P : D → Ev → Prop) (N : Ev → Prop), (c x = true → ∀ δ5, wipeD δ5 vs = wipeD δ1 vs → P (f x) δ5) → (c x = false → ∀ δ4, wipeD δ4 vs = wipeD δ1 vs → N δ4) → g x (wipeD δ1 vs) fun δ3 => t (fun _ _ => False) δ3 fun b δ4 => (b = true → re (fun _ _ => False) δ4 P) ∧ (b = false → N δ4))
    (hq : Q ((xs.filter c).map f) (backD δ1 (wipeD δ1 vs) vs)) : lcG xs g t re vs δ1 Q := by
  refine ⟨fun i acc δ => acc = ((xs.take i).filter c).map f ∧ δ = wipeD δ1 vs, ⟨rfl, rfl⟩, ?_, ?_⟩
  · rintro i x acc δ2 hx ⟨rfl, rfl⟩
    have hi : i < xs.length := (List.getElem?_eq_some_iff.mp hx).1
    have e : xs.take (i + 1) = xs.take i ++ [x] := by rw [List.take_succ, hx]; rfl
    refine h x (List.mem_of_getElem? hx) _ _ (fun hc δ5 h5 => ⟨?_, ?_, h5⟩) (fun hc δ4 h4 => ⟨?_, h4⟩)
    · rw [List.length_map]
      have := List.length_filter_le c (xs.take i)
      have := List.length_take_le i xs
      rw [List.length_take] at *
      omega
    · rw [e, List.filter_append, List.map_append, List.filter_cons, if_pos hc]
      rfl
    · rw [e, List.filter_append, List.map_append, List.filter_cons, if_neg (by rw [hc]; decide)]
      simp
  · rintro acc δ2 ⟨rfl, rfl⟩
    rw [List.take_length]
    exact hq
/-- a comprehension whose turns change the hand, what is drawn not known -/
theorem lc_acc {δ1 : Ev} {vs : List Nat} {xs : List D} {g : DG} {t : DT} {re : DE} {Q : List D → Ev → Prop} (J : Nat → List D → Ev → Prop) (ht : t = tYesD) (hz : xs.length ≤ sizeLine) (h0 : J 0 [] (wipeD δ1 vs))
    (hs : ∀ (i : Nat) (x : D) (acc : List D) (δ : Ev) (P : D → Ev → Prop), xs[i]? = some x → acc.length = i → J i acc δ → (∀ y δ5, J (i + 1) (acc ++ [y]) (wipeD δ5 vs) → P y δ5) → g x δ fun δ3 => re (fun _ _ => False) δ3 P) (hq : ∀ acc δ, acc.length = xs.length → J xs.length acc δ → Q acc (backD δ1 δ vs)) : lcG xs g t re vs δ1 Q := by
  subst ht
  refine ⟨fun i acc δ => acc.length = i ∧ J i acc δ, ⟨rfl, h0⟩, ?_, ?_⟩
  · rintro i x acc δ hx ⟨hl, hj⟩
    have hi : i < xs.length := (List.getElem?_eq_some_iff.mp hx).1
    have := hs i x acc δ (fun y δ5 => acc.length < sizeLine ∧ (acc ++ [y]).length = i + 1 ∧ J (i + 1) (acc ++ [y]) (wipeD δ5 vs)) hx hl hj fun y δ5 h5 => ⟨by omega, by simp [hl], h5⟩
    have e : (fun δ3 => re (fun _ _ => False) δ3 fun y δ5 => acc.length < sizeLine ∧ (acc ++ [y]).length = i + 1 ∧ J (i + 1) (acc ++ [y]) (wipeD δ5 vs)) =
        fun δ3 => tYesD (fun _ _ => False) δ3 fun b δ4 => (b = true → re (fun _ _ => False) δ4 fun y δ5 => acc.length < sizeLine ∧ (acc ++ [y]).length = i + 1 ∧ J (i + 1) (acc ++ [y]) (wipeD δ5 vs)) ∧ (b = false → acc.length = i + 1 ∧ J (i + 1) acc (wipeD δ4 vs)) := by
      funext δ3
      exact propext ⟨fun h => ⟨fun _ => h, fun z => nomatch z⟩, fun h => h.1 rfl⟩
    rw [e] at this
    exact this
  · rintro acc δ ⟨hl, hj⟩
    exact hq acc δ hl hj
theorem noq_not_tup {x : D} (h : isB "tuple" x = false) : ∀ xs, x ≠ .tup xs := fun xs e => by subst e; exact absurd (show true = false from h) (by decide)
theorem isB_tuple_get {x : D} (h : isB "tuple" x = true) : ∃ xs, x = .tup xs := by
  cases x
  case tup xs => exact ⟨xs, rfl⟩
  all_goals exact absurd (show false = true from h) (by decide)
end DL


set_option Elab.async false
set_option linter.all false
set_option maxRecDepth 100000
set_option maxHeartbeats 4000000
set_option autoImplicit true
namespace DL
open PySem PySem.Spec PyProof.Rows L2
theorem tuple_mul0 (l : Addr) (items : Array Value) (n : Nat) (dd : Option Addr) (sl : Array (Option Value)) (x : Int) (u : Tok) (c0 : (decide (x < -(2 ^ 63)) || decide (x ≥ 2 ^ 63)) = false) (c1 : (items.isEmpty || x == 1) = false) (c2 : (decide (x ≤ 0) || items.isEmpty) = true) :
    Meets (Builtin.«tuple.__mul__» ⟨[.ref l, .int x u], []⟩) (fun _ R s => s.heap.get? l = some { cls := .type "tuple", dict := dd, data := .seq items n, slots := sl } ∧
      R (.ok (.ret (Value.ref s.heap.objs.size))) { s with heap := s.heap.push { cls := Value.type "tuple", data := Data.seq #[] }, toks := s.toks }) :=
  .of_wp fun prog w A R s h => by
    obtain ⟨hp, g, d, tk, os⟩ := s
    obtain ⟨hl, h⟩ := h
    have f1 := AutoSeq1.idx_int
    wp_walk using wpAny_loadPart' hl
    repeat (first
      | (refine wpAny_ite_false (decide_eq_false (by rw [c0]; exact Bool.false_ne_true)) ?_; wp_walk using wpAny_loadPart' hl)
      | (refine wpAny_ite_false (decide_eq_false (by rw [c1]; exact Bool.false_ne_true)) ?_; wp_walk using wpAny_loadPart' hl)
      | (refine wpAny_ite_true (decide_eq_true (by rw [c2])) ?_; wp_walk using wpAny_loadPart' hl))
    exact ⟨_, rfl, h⟩
theorem tuple_mul1 (l : Addr) (items : Array Value) (n : Nat) (dd : Option Addr) (sl : Array (Option Value)) (x : Int) (u : Tok) (c0 : (decide (x < -(2 ^ 63)) || decide (x ≥ 2 ^ 63)) = false) (c1 : (items.isEmpty || x == 1) = true) :
    Meets (Builtin.«tuple.__mul__» ⟨[.ref l, .int x u], []⟩) (fun _ R s => s.heap.get? l = some { cls := .type "tuple", dict := dd, data := .seq items n, slots := sl } ∧
      R (.ok (.ret (Value.ref l))) s) :=
  .of_wp fun prog w A R s h => by
    obtain ⟨hp, g, d, tk, os⟩ := s
    obtain ⟨hl, h⟩ := h
    have f1 := AutoSeq1.idx_int
    wp_walk using wpAny_loadPart' hl
    repeat (first
      | (refine wpAny_ite_false (decide_eq_false (by rw [c0]; exact Bool.false_ne_true)) ?_; wp_walk using wpAny_loadPart' hl)
      | (refine wpAny_ite_true (decide_eq_true (by rw [c1])) ?_; wp_walk using wpAny_loadPart' hl))
    exact ⟨_, rfl, h⟩
/-- a tuple taken over and over, none and once among them -/
def rRepT2 (K : PySem.W.Frag) : R2 := fun x y H Q => ∃ l k xs, x = .ref l ∧ y = .int k ∧ SqT K H l xs ∧ xs ≠ [] ∧ 0 ≤ k ∧ k ≤ 1000 ∧ xs.length ≤ 1000 ∧ (k = 1 → Q (.ref l) H) ∧ (k ≠ 1 → ∀ p, H p = none → Q (.ref p) (upd H p (.tup (List.replicate k.toNat xs).flatten)))
theorem op_repT2 {X : Cx} : OpR X (binaryOp .Mult) (rRepT2 X.K) := by
  intro pins s σ H x y v u Q I rx ry h
  obtain ⟨l, k, xs, rfl, rfl, hT, hne, h1, h2, hz, q1, q⟩ := h
  by_cases hk : 2 ≤ k
  · exact op_repT pins s σ H _ _ _ _ Q I rx ry ⟨l, k, xs, rfl, rfl, hT, hne, hk, h2, hz, q (by omega)⟩
  cases rx
  obtain ⟨t, rfl⟩ := ry
  obtain ⟨its, r, ⟨⟨cls, dd, data, sl⟩, ho, hc, n, hd⟩, hs⟩ := I.tuple hT
  simp only at hc hd
  subst hc hd
  have hle : its.length = xs.length := r.length.symm
  have hn : its ≠ [] := fun e => hne (by
    rw [e] at hle
    exact List.eq_nil_of_length_eq_zero hle.symm)
  have hi : its.toArray.isEmpty = false := by
    cases its with
    | nil => exact absurd rfl hn
    | cons a b => rfl
  have c0 : (decide (k < -(2 ^ 63)) || decide (k ≥ 2 ^ 63)) = false := by
    rw [decide_eq_false (by omega), decide_eq_false (by omega)] <;> rfl
  by_cases hk1 : k = 1
  · have c1 : (its.toArray.isEmpty || k == 1) = true := by rw [hk1, Bool.or_eq_true]; right; rfl
    refine wpAny_binaryOp_repeat_ref (T := "tuple") (U := "int") (by decide) ⟨_, ho, rfl⟩ (fun s' => typeIs_int s' k t) noFill_tuple_mul F.fills_int_mul F.slot_int_rmul repeat_tuple F.slot_int_index.lookup
      (call_meets F.slot_int_rmul (typeIs_int s k t) F.entry_int_rmul (F.args_int_rmul_2 _ _) (int_rmul_tuple k t l its.toArray n dd sl)
        ⟨ho, rfl, ⟨_, ho, rfl⟩, call_meets F.slot_tuple_mul ⟨_, ho, rfl⟩ F.entry_tuple_mul (F.args_tuple_mul_2 _ _) (tuple_mul1 l its.toArray n dd sl k t c0 c1) ⟨ho, ?_⟩⟩)
    exact ⟨.ref l, _, I, rfl, q1 hk1⟩
  · have c1 : (its.toArray.isEmpty || k == 1) = false := by
      rw [hi, Bool.false_or]
      exact beq_eq_false_iff_ne.mpr hk1
    have c2 : (decide (k ≤ 0) || its.toArray.isEmpty) = true := by
      rw [decide_eq_true (by omega)]; rfl
    refine wpAny_binaryOp_repeat_ref (T := "tuple") (U := "int") (by decide) ⟨_, ho, rfl⟩ (fun s' => typeIs_int s' k t) noFill_tuple_mul F.fills_int_mul F.slot_int_rmul repeat_tuple F.slot_int_index.lookup
      (call_meets F.slot_int_rmul (typeIs_int s k t) F.entry_int_rmul (F.args_int_rmul_2 _ _) (int_rmul_tuple k t l its.toArray n dd sl)
        ⟨ho, rfl, ⟨_, ho, rfl⟩, call_meets F.slot_tuple_mul ⟨_, ho, rfl⟩ F.entry_tuple_mul (F.args_tuple_mul_2 _ _) (tuple_mul0 l its.toArray n dd sl k t c0 c1 c2) ⟨ho, ?_⟩⟩)
    have e0 : k.toNat = 0 := by omega
    have q := q hk1
    rw [e0] at q
    refine ⟨.ref s.heap.objs.size, _, I.laid (t' := s.toks) (o := .tup []) (fun b ob q => Heap.get?_push_of_some _ q) (Nat.le_refl _) ?_, rfl, q _ (I.hok.fresh (Nat.le_refl _))⟩
    exact ⟨by simp, [], .nil, IsTup.new _ _⟩
def fRepT2 : D → D → (D → Prop) → Prop
  | .tup xs, .int n, Q => xs ≠ [] ∧ 0 ≤ n ∧ n ≤ 1000 ∧ xs.length ≤ 1000 ∧ Q (.tup (List.replicate n.toNat xs).flatten)
  | _, _, _ => False
theorem lf_repT2 {K : PySem.W.Frag} : Leaf2 K T (rRepT2 K) fRepT2 := fun F G H σ δ x y v w Qd Q R px py hf k => by
  cases x <;> cases y <;> first | exact hf.elim | skip
  obtain ⟨a, us, rfl, h1, h2⟩ := px
  obtain ⟨c1, c2, c3, c4, q⟩ := hf
  refine ⟨a, _, us, rfl, py, ex_t R.ex h1, fun e => ?_, c2, c3, by rw [h2.length]; exact c4, fun e => ?_, fun _ p hp => ?_⟩
  · subst e
    exact c1 (List.length_eq_zero_iff.mp h2.length.symm)
  · subst e
    have e1 : ∀ zs : List D, (List.replicate (1 : Int).toNat zs).flatten = zs := fun zs => by
      rw [show (List.replicate (1 : Int).toNat zs) = [zs] from rfl, List.flatten_cons, List.flatten_nil, List.append_nil]
    rw [e1] at q
    exact k _ _ _ (.tup _) (fun _ _ h => h) R ⟨a, us, rfl, h1, h2⟩ q
  · exact k _ _ _ (.tup _) (Ex.new (R.ex.back hp)) (R.alloc hp) ⟨p, _, rfl, .inl (.inl upd_same), RpL.mono (Ex.new (R.ex.back hp)) _ _ (h2.rep _)⟩ q
theorem dx_repT2 {T : List (Addr × Str)} {X : Cx} {W : WX} {a b : Expr} {ra rb : DE} {pos : Pos} (ha : PE X a (up X.K T W ra)) (hb : PE X b (up X.K T W rb)) : PE X (.BinOp a .Mult b pos) (up X.K T W (dBin fRepT2 ra rb)) := dx_op op_repT2 lf_repT2 ha hb
end DL


set_option Elab.async false
set_option linter.all false
set_option maxRecDepth 100000
set_option autoImplicit true
namespace DL
open PySem PySem.Spec PyProof.Rows L2
section
variable {K : PySem.W.Frag} {F : Fm} {G H : Hp} {σ : L2.St} {δ : Ev}
theorem Rel.frz2 (R : Rel K T F G H σ δ) : ∃ F1 G1, F1.H0 = H ∧ Rel K T F1 G1 H σ (DL.frz δ) ∧ ∀ G' H' σ' δ', Ex G1 G' → Rel K T F1 G' H' σ' δ' → ∃ G2, Ex G G2 ∧ Rel K T F G2 H' σ δ ∧ ∀ a, G' a = none → G2 a = none := by
  let G1 : Hp := fun a => if (a ∈ owns δ ∧ G a = none) then H a else G a
  have gn : ∀ p, p ∈ owns δ ∧ G p = none → G p = none := fun p hp => hp.2
  have e1 : Ex G G1 := fun a o h => by
    show (if (a ∈ owns δ ∧ G a = none) then H a else G a) = some o
    rw [if_neg (fun z => by rw [gn a z] at h; cases h)]
    exact h
  have e2 : Ex G1 H := fun a o h => by
    have h : (if (a ∈ owns δ ∧ G a = none) then H a else G a) = some o := h
    by_cases z : a ∈ owns δ ∧ G a = none
    · rw [if_pos z] at h; exact h
    · rw [if_neg z] at h; exact R.ex a o h
  refine ⟨⟨H, G1, []⟩, G1, rfl, ⟨e2, frz_sl e1 (fun p hp us h => ?_) R.sl, (by rw [frz_own]; exact List.nodup_nil), (fun p hp => by rw [frz_own] at hp; cases hp), fun a o _ h _ => h, fun a h => h, fun a _ _ h => h, ⟨R.tab.1, fun a ps h => ?_⟩⟩, fun G' H' σ' δ' x1 R' => ?_⟩
  · show (if (p ∈ owns δ ∧ G p = none) then H p else G p) = _
    by_cases z : G p = none
    · rw [if_pos ⟨hp, z⟩]; exact h
    · rw [if_neg (fun y => z y.2)]
      cases q : G p with
      | none => exact absurd q z
      | some o' => rw [← R.ex p o' q]; exact h
  · have h : (if (a ∈ owns δ ∧ G a = none) then H a else G a) = some (.tbl ps) := h
    by_cases z : a ∈ owns δ ∧ G a = none
    · rw [if_pos z] at h
      obtain ⟨s, hs, he⟩ := List.mem_filterMap.mp z.1
      obtain ⟨i, hi⟩ := List.getElem?_of_mem hs
      cases s with
      | u => cases he
      | d x => cases he
      | o q xs =>
        cases he
        obtain ⟨_, _, us, h3, _⟩ := R.oget hi
        rw [h] at h3
        cases h3
      | h q ks vs =>
        cases he
        obtain ⟨_, _, o, us, h3, h4, _⟩ := R.hget hi
        rw [h] at h3
        exact h4.nt ps (Option.some.inj h3).symm
      | k q f ks vs =>
        cases he
        obtain ⟨_, _, ok⟩ := R.sl.get hi
        exact absurd (ok.2.1.symm.trans z.2) (fun y => nomatch y)
    · rw [if_neg z] at h
      exact R.tab.2 a ps h
  · refine ⟨fun a => if (a ∈ owns δ ∧ G a = none) then none else G' a, fun a o h => ?_, ?_, fun a h => ?_⟩
    · show (if (a ∈ owns δ ∧ G a = none) then none else G' a) = some o
      rw [if_neg (fun z => by rw [gn a z] at h; cases h)]
      exact x1 a o (e1 a o h)
    · refine R.growN (fun a o h => ?_) (fun a o h n => R'.keep a o (fun z => nomatch z) h n) (fun a o h => ?_) (fun a h1 h2 => ?_) ⟨R'.tab.1, fun a ps h => ?_⟩
      · show (if (a ∈ owns δ ∧ G a = none) then none else G' a) = some o
        rw [if_neg (fun z => by rw [gn a z] at h; cases h)]
        exact x1 a o (e1 a o h)
      · have h : (if (a ∈ owns δ ∧ G a = none) then none else G' a) = some o := h
        by_cases z : a ∈ owns δ ∧ G a = none
        · rw [if_pos z] at h; cases h
        · rw [if_neg z] at h; exact R'.ex a o h
      · have h2 : (if (a ∈ owns δ ∧ G a = none) then none else G' a) ≠ none := h2
        by_cases z : a ∈ owns δ ∧ G a = none
        · rw [if_pos z] at h2; exact absurd rfl h2
        · rw [if_neg z] at h2
          have q : (if (a ∈ owns δ ∧ G a = none) then H a else G a) ≠ none := R'.gh a (fun z => nomatch z) h1 h2
          rw [if_neg z] at q
          exact q
      · have h : (if (a ∈ owns δ ∧ G a = none) then none else G' a) = some (.tbl ps) := h
        by_cases z : a ∈ owns δ ∧ G a = none
        · rw [if_pos z] at h; cases h
        · rw [if_neg z] at h; exact R'.tab.2 a ps h
    · show (if (a ∈ owns δ ∧ G a = none) then none else G' a) = none
      rw [h]
      split <;> rfl
end
theorem flat_rpl {K : PySem.W.Frag} {G G' : Hp} : ∀ {xs : List D} {us : List V}, xs.all flatD = true → RpL K G xs us → RpL K G' xs us
  | [], _, _, p => p
  | d :: ds, us, h, p => by
    obtain ⟨x, r, rfl, a, b⟩ := p
    rw [List.all_cons, Bool.and_eq_true] at h
    exact ⟨x, r, rfl, flat_rp h.1 a, flat_rpl h.2 b⟩
/-- a new list of flat things, made while the lists that are changed are looked at as data -/
def fPeek (r : DF) : DF := fun _ δ Q => r (fun _ _ => False) (frz δ) fun xs δ' => δ' = frz δ ∧ xs.all flatD = true ∧ Q xs δ
theorem df_peek {T : List (Addr × Str)} {X : Cx} {W : WX} {e : Expr} {rs : DF} (h : PE X e (upF X.K T W rs)) : PE X e (upF X.K T W (fPeek rs)) := PEi h fun σ H Q h => by
  obtain ⟨F, G, δ, Xc, Qd, R, hr, hx, k⟩ := h
  obtain ⟨F1, G1, eF, R1, back⟩ := R.frz2
  refine ⟨F1, G1, frz δ, _, _, R1, hr, fun _ _ _ _ _ _ z => z.elim, fun G' H' p us xs δ' e R' g hl rp hn ho q => ?_⟩
  obtain ⟨rfl, q1, q2⟩ := q
  obtain ⟨G2, e2, R2, gone⟩ := back G' H' _ _ e R'
  rw [eF] at hn
  obtain ⟨z1, z2⟩ := R.fresh_own hn
  exact k G2 H' p us xs δ e2 R2 (gone p g) hl (flat_rpl q1 rp) z1 z2 q2
end DL


set_option Elab.async false
set_option linter.all false
set_option maxRecDepth 100000
set_option maxHeartbeats 4000000
set_option autoImplicit true
namespace DL
open PySem PySem.Spec PyProof.Rows L2
/-! ### sorted(x), x a list or a tuple of ints -/
section
variable {prog : Program} {w : World} {A : Around} {E : Value → Shared → Prop} {s : Shared}
theorem collect_tup {l : Addr} {vs : List Value} {Q : List Value → Shared → Prop} (hl : s.heap.IsTuple l vs.toArray)
    (h : Q vs { s with heap := (s.heap.push (seqObj "list" #[] 0)).update s.heap.objs.size (Obj.mapSeq (· ++ vs.toArray)) }) (hsz : vs.length ≤ sizeLine) :
    wpAny (model prog w) A (collect (.ref l)) Q E s := by
  obtain ⟨o, ho, hc, n, hd⟩ := id hl
  unfold collect
  refine wpAny_bind (wpAny_runValue (codeAny_builtin entry_proto_collect' ?_))
  show wpAny _ _ (do again (.builtin "list.__iadd__" ⟨[← newList [], .ref l], []⟩)) _ _ s
  refine wpAny_bind (wpAny_newList (wpAny_pure ⟨Code.quiet_builtin _ (by decide +kernel), codeAny_builtin entry_list_iadd' ?_⟩))
  show wpAny _ _ (Builtin.List.listExtendWith (.ref s.heap.objs.size) (.ref l) (.ref s.heap.objs.size)) _ _ { s with heap := s.heap.push (seqObj "list" #[] 0) }
  unfold Builtin.List.listExtendWith
  have ho' : (s.heap.push (seqObj "list" #[] 0)).get? l = some o := Heap.get?_push_of_some _ ho
  refine wpAny_bind (wpAny_typeOf (T := "tuple") ⟨o, ho', hc⟩ ?_)
  have ht : (Value.type "tuple" == Value.type "tuple") = true := by rfl
  rw [if_pos (by rw [ht]; simp)]
  refine wpAny_bind (listItems_at ho' hd ?_)
  refine wpAny_bind (listItems_at (xs := #[]) (n := 0) (Heap.get?_push_size _ rfl) rfl ?_)
  rw [if_neg (by simp)]
  refine wpAny_bind (listUpdate_at (xs := #[]) (n := 0) (Heap.get?_push_size _ rfl) rfl ?_ (Nat.zero_le _) (by show (#[] ++ vs.toArray).size ≤ sizeLine + 1; simp only [Array.size_append, List.size_toArray, List.length_nil]; omega))
  refine wpAny_pure ?_
  show wpAny (model prog w) A (do
      let o ← load s.heap.objs.size
      match o.data with
      | .seq xs _ => pure xs.toList
      | _ => unsupported "internal:collect") Q E { s with heap := (s.heap.push (seqObj "list" #[] 0)).update s.heap.objs.size (Obj.mapSeq (· ++ vs.toArray)) }
  refine wpAny_bind (wpAny_load (get?_update_seq (Heap.get?_push_size _ rfl) _) ?_)
  show wpAny _ _ (pure ((#[] : Array Value) ++ vs.toArray).toList) Q E _
  rw [show ((#[] : Array Value) ++ vs.toArray).toList = vs by simp]
  exact wpAny_pure h
end
section
open SrtO
variable {prog : Program} {w : World} {A : Around} {E : Value → Shared → Prop} {s : Shared}
theorem sorted_ordT {l : Addr} {vs : List Value} {ltv : Value → Value → Bool} {Q : Value → Shared → Prop} (O : Swo ltv) (hl : s.heap.IsTuple l vs.toArray) (hz : vs.length ≤ sizeLine)
    (hS : 2 ≤ vs.length → ∀ (h₁ : Heap) (a : Addr), h₁.get? a = some (seqObj "list" vs.toArray 0) → (∀ b o, s.heap.get? b = some o → b ≠ a ∧ h₁.get? b = some o) → SortableO prog w A.in1.in1 { s with heap := h₁ } a vs ltv)
    (h : ∀ out : List Value, Srtd ltv out → Stb ltv out vs → Q (.ref (s.heap.objs.size + 1)) { s with heap := sortedAll s.heap vs out.toArray }) :
    wpAny (model prog w) A (call (.builtin "sorted") [.ref l]) Q E s := by
  refine Calls.call_function_entry kind_sorted plain_sorted entry_sorted (args_sorted1 _) ?_
  unfold Builtin.«sorted»
  refine wpAny_bind (m := checkCount "sorted" 1 1 _) (wpAny_pure ?_)
  refine wpAny_bind (collect_tup hl ?_ hz)
  refine wpAny_bind (wpAny_newList ?_ hz)
  have hsz : ((s.heap.push (seqObj "list" #[] 0)).update s.heap.objs.size (Obj.mapSeq (· ++ vs.toArray))).objs.size = s.heap.objs.size + 1 := by
    rw [Heap.size_update, size_push']
  have hoL : (((s.heap.push (seqObj "list" #[] 0)).update s.heap.objs.size (Obj.mapSeq (· ++ vs.toArray))).push (seqObj "list" vs.toArray 0)).get? (s.heap.objs.size + 1) = some (seqObj "list" vs.toArray 0) := by
    rw [← hsz]; exact Heap.get?_push_size _ rfl
  have keep : ∀ b o, s.heap.get? b = some o → b ≠ s.heap.objs.size + 1 ∧ (((s.heap.push (seqObj "list" #[] 0)).update s.heap.objs.size (Obj.mapSeq (· ++ vs.toArray))).push (seqObj "list" vs.toArray 0)).get? b = some o := fun b o q => by
    have hlt : b < s.heap.objs.size := Heap.lt_size q
    refine ⟨Nat.ne_of_lt (Nat.lt_succ_of_lt hlt), Heap.get?_push_of_some _ ?_⟩
    rw [Heap.get?_update_ne _ _ _ _ (Nat.ne_of_lt hlt)]
    exact Heap.get?_push_of_some _ q
  show wpAny _ _ _ _ _ { s with heap := ((s.heap.push (seqObj "list" #[] 0)).update s.heap.objs.size (Obj.mapSeq (· ++ vs.toArray))).push (seqObj "list" vs.toArray 0) }
  rw [hsz]
  refine wpAny_bind (wpAny_holding (wpAny_call_entry slot_list_sort ⟨_, hoL, rfl⟩ entry_list_sort (list_sort_ord O hoL hz (fun h2 => hS h2 _ _ hoL keep) fun out hs hb => ⟨_, rfl, ?_⟩) (args_list_sort _)))
  exact wpAny_pure ⟨_, rfl, h out hs hb⟩
end
def rSortedI2 (K : PySem.W.Frag) : List V → Hp → VK → Prop := fun vs H Q => ∃ (a : Addr) (ns : List Int), vs = [V.ref a] ∧ (SqL K H a (ns.map V.int) ∨ SqT K H a (ns.map V.int)) ∧
  ∀ (ns' : List Int) (p : Addr), ns'.Perm ns → ns'.Pairwise (· ≤ ·) → H p = none → Q (.ref p) (upd H p (.lst (ns'.map V.int)))
theorem cr_sortedI2 {X : Cx} : CallR X (.builtin "sorted") (rSortedI2 X.K) := by
  intro pins s σ H vs us Q I r h
  obtain ⟨a, ns, rfl, hs, q⟩ := h
  rcases hs with hs | hs
  · exact cr_sortedI pins s σ H _ us Q I r ⟨a, ns, rfl, hs, q⟩
  obtain ⟨its, rv, hl, hz⟩ := I.tuple hs
  rw [Vals.ref1 r]
  have hi := rv.ints
  refine sorted_ordT SrtO.swo_int hl (by rw [← rv.length]; exact hz) (fun h2 h₁ a' _ _ => SrtO.ints_sortable hi h2) fun out h1 h2 => ?_
  obtain ⟨k1, k2, k3⟩ := SrtO.ints_out hi h1 h2
  obtain ⟨ep, he'⟩ := PyProof.Rows.sortedAll_at s.heap its out.toArray
  have hlen : ((out.map SrtO.iv).map V.int).length ≤ sizeLine := by
    rw [List.length_map, k2.length_eq]
    rw [List.length_map] at hz
    exact hz
  exact ⟨.ref _, upd H (s.heap.objs.size + 1) (.lst ((out.map SrtO.iv).map V.int)), I.laid (t' := s.toks) (fun _ _ => PyProof.Rows.sortedAll_old) (Nat.le_succ _) ⟨hlen, out, ep, vals_of_ints k1, he'⟩, rfl, q _ _ k2 k3 (I.hok.fresh (Nat.le_succ _))⟩
def gSorted2 : List D → (List D → Prop) → Prop
  | [.lst xs], Q => ∃ ns : List Int, xs = ns.map D.int ∧ ∀ ns' : List Int, ns'.Perm ns → ns'.Pairwise (· ≤ ·) → Q (ns'.map D.int)
  | [.tup xs], Q => ∃ ns : List Int, xs = ns.map D.int ∧ ∀ ns' : List Int, ns'.Perm ns → ns'.Pairwise (· ≤ ·) → Q (ns'.map D.int)
  | _, _ => False
theorem lf_sorted2 {K : PySem.W.Frag} : LeafF K (rSortedI2 K) gSorted2 := fun G H ds vs Qd Q e p hf k => by
  unfold gSorted2 at hf
  split at hf
  · obtain ⟨ns, rfl, q⟩ := hf
    obtain ⟨v, rfl, a, us, rfl, h1, h2⟩ := one_of p
    obtain rfl := h2.ints
    exact ⟨a, ns, rfl, .inl (ex_lt e h1), fun ns' l p1 p2 hl => k (ns'.map V.int) (ns'.map D.int) (RpL.ofInts ns') (q ns' p1 p2) l hl⟩
  · obtain ⟨ns, rfl, q⟩ := hf
    obtain ⟨v, rfl, a, us, rfl, h1, h2⟩ := one_of p
    obtain rfl := h2.ints
    exact ⟨a, ns, rfl, .inr (ex_t e h1), fun ns' l p1 p2 hl => k (ns'.map V.int) (ns'.map D.int) (RpL.ofInts ns') (q ns' p1 p2) l hl⟩
  · exact hf.elim
/-! ### tuple * n, up to the line -/
def rRepT3 (K : PySem.W.Frag) : R2 := fun x y H Q => ∃ l k xs, x = .ref l ∧ y = .int k ∧ SqT K H l xs ∧ xs ≠ [] ∧ 2 ≤ k ∧ k ≤ 2 ^ 20 ∧ xs.length ≤ 2 ^ 20 ∧ xs.length * k.toNat ≤ sizeLine ∧ ∀ p, H p = none → Q (.ref p) (upd H p (.tup (List.replicate k.toNat xs).flatten))
theorem op_repT3 {X : Cx} : OpR X (binaryOp .Mult) (rRepT3 X.K) := by
  intro pins s σ H x y v u Q I rx ry h
  obtain ⟨l, k, xs, rfl, rfl, hT, hne, h1, h2, hz, hzz, q⟩ := h
  cases rx
  obtain ⟨t, rfl⟩ := ry
  obtain ⟨its, r, ⟨⟨cls, dd, data, sl⟩, ho, hc, n, hd⟩, hs⟩ := I.tuple hT
  simp only at hc hd
  subst hc hd
  have hle : its.length = xs.length := r.length.symm
  have hn : its ≠ [] := fun e => hne (by
    rw [e] at hle
    exact List.eq_nil_of_length_eq_zero hle.symm)
  have hi : its.toArray.isEmpty = false := by
    cases its with
    | nil => exact absurd rfl hn
    | cons a b => rfl
  have hsz0 : its.toArray.size = xs.length := by rw [List.size_toArray, hle]
  have hk : ((k.toNat : Nat) : Int) = k := Int.toNat_of_nonneg (by omega)
  have hm : ((its.toArray.size : Nat) : Int) * k ≤ sizeLine := by
    rw [hsz0, ← hk, ← Int.natCast_mul]
    exact Int.ofNat_le.mpr hzz
  have hm2 : ((its.toArray.size : Nat) : Int) * k ≤ 2 ^ 40 := by
    rw [hsz0]
    have a1 : ((xs.length : Nat) : Int) * k ≤ 2 ^ 20 * k := Int.mul_le_mul_of_nonneg_right (by omega) (by omega)
    omega
  have flen : (List.replicate k.toNat its).flatten.length ≤ sizeLine := by
    rw [PyProof.Rows.lm_len_rep_flat, hle, Nat.mul_comm]
    exact hzz
  have c0 : (decide (k < -(2 ^ 63)) || decide (k ≥ 2 ^ 63)) = false := by
    rw [decide_eq_false (by omega), decide_eq_false (by omega)] <;> rfl
  have c1 : (its.toArray.isEmpty || k == 1) = false := by
    rw [hi, Bool.false_or]
    exact beq_eq_false_iff_ne.mpr (by omega)
  have c2 : (decide (k ≤ 0) || its.toArray.isEmpty) = false := by
    rw [hi, Bool.or_false]
    exact decide_eq_false (by omega)
  have c4 : Builtin.Tuple.tupleTooMany (((its.toArray.size : Nat) : Int) * k) = false := by
    unfold Builtin.Tuple.tupleTooMany
    exact decide_eq_false (by omega)
  refine wpAny_binaryOp_repeat_ref (T := "tuple") (U := "int") (by decide) ⟨_, ho, rfl⟩ (fun s' => typeIs_int s' k t) noFill_tuple_mul F.fills_int_mul F.slot_int_rmul repeat_tuple F.slot_int_index.lookup
    (call_meets F.slot_int_rmul (typeIs_int s k t) F.entry_int_rmul (F.args_int_rmul_2 _ _) (int_rmul_tuple k t l its.toArray n dd sl)
      ⟨ho, rfl, ⟨_, ho, rfl⟩, call_meets F.slot_tuple_mul ⟨_, ho, rfl⟩ F.entry_tuple_mul (F.args_tuple_mul_2 _ _) (tuple_mulW l its.toArray n dd sl k t c0 c1 c2 (by omega) c4 (by rw [size_rep, List.size_toArray]; exact flen)) ⟨ho, ?_⟩⟩)
  rw [size_rep]
  refine ⟨.ref s.heap.objs.size, _, I.laid (t' := s.toks) (o := .tup (List.replicate k.toNat xs).flatten) (fun b ob q => Heap.get?_push_of_some _ q) (Nat.le_refl _) ?_, rfl, q _ (I.hok.fresh (Nat.le_refl _))⟩
  exact ⟨by rw [PyProof.Rows.lm_len_rep_flat, Nat.mul_comm]; exact hzz, _, r.rep k.toNat, IsTup.new _ _⟩
def fRepT3 : D → D → (D → Prop) → Prop
  | .tup xs, .int n, Q => xs ≠ [] ∧ 2 ≤ n ∧ n ≤ 2 ^ 20 ∧ xs.length ≤ 2 ^ 20 ∧ xs.length * n.toNat ≤ sizeLine ∧ Q (.tup (List.replicate n.toNat xs).flatten)
  | _, _, _ => False
theorem lf_repT3 {K : PySem.W.Frag} : Leaf2 K T (rRepT3 K) fRepT3 := fun F G H σ δ x y v w Qd Q R px py hf k => by
  cases x <;> cases y <;> first | exact hf.elim | skip
  obtain ⟨a, us, rfl, h1, h2⟩ := px
  obtain ⟨c1, c2, c3, c4, c5, q⟩ := hf
  refine ⟨a, _, us, rfl, py, ex_t R.ex h1, fun e => ?_, c2, c3, by rw [h2.length]; exact c4, by rw [h2.length]; exact c5, fun p hp => ?_⟩
  · subst e
    exact c1 (List.length_eq_zero_iff.mp h2.length.symm)
  · exact k _ _ _ (.tup _) (Ex.new (R.ex.back hp)) (R.alloc hp) ⟨p, _, rfl, .inl (.inl upd_same), RpL.mono (Ex.new (R.ex.back hp)) _ _ (h2.rep _)⟩ q
theorem dx_repT3 {T : List (Addr × Str)} {X : Cx} {W : WX} {a b : Expr} {ra rb : DE} {pos : Pos} (ha : PE X a (up X.K T W ra)) (hb : PE X b (up X.K T W rb)) : PE X (.BinOp a .Mult b pos) (up X.K T W (dBin fRepT3 ra rb)) := dx_op op_repT3 lf_repT3 ha hb
end DL


set_option Elab.async false
set_option linter.all false
set_option maxRecDepth 100000
set_option maxHeartbeats 4000000
set_option autoImplicit true
namespace DL
open PySem PySem.Spec PyProof.Rows L2
theorem Room.u65 {k : Nat} {A : Around} (r : Room k A) : A.units + 65 < cLine := by have := r.un; omega
/-! ### x in y, y of data of any depth -/
def fInD (neg : Bool) : D → D → (D → Prop) → Prop := fun x y Q => match y with
  | .lst ys => okE x = true ∧ okE (.lst ys) = true ∧ Q (.bl (if neg then !(ys.any fun z => PyData.eqv z.toPy x.toPy) else ys.any fun z => PyData.eqv z.toPy x.toPy))
  | .tup ys => okE x = true ∧ okE (.tup ys) = true ∧ Q (.bl (if neg then !(ys.any fun z => PyData.eqv z.toPy x.toPy) else ys.any fun z => PyData.eqv z.toPy x.toPy))
  | _ => False
def rInD2 (neg : Bool) (K : PySem.W.Frag) : R2 := fun x y H Q => ∃ d ds, Dp K H x d ∧ (Dp K H y (.list ds) ∧ SeqAt.shaped (.list ds) = true ∨ Dp K H y (.tuple ds) ∧ SeqAt.shaped (.tuple ds) = true) ∧ SeqAt.shaped d = true ∧
  Q (.bl (if neg then !(ds.any fun z => PyData.eqv z d) else ds.any fun z => PyData.eqv z d)) H
theorem op_inD2 {X : Cx} (hu : X.A.units + 65 < cLine) : OpR X (compareOp .In) (rInD2 false X.K) := by
  intro pins s σ H x y v u Q I rx ry h
  obtain ⟨d, ds, hd, ⟨he, se⟩ | ⟨he, se⟩, sd, q⟩ := h
  · obtain ⟨as, r1⟩ := Dp.reads I d x v hd rx
    obtain ⟨bs, r2⟩ := Dp.reads I (.list ds) y u he ry
    exact SeqAt.in_list_reads r2 r1 (SeqAt.canLay_of_shaped se) (SeqAt.canLay_of_shaped sd) (room_in_shaped sd hu) ⟨.bl _, H, I, rfl, q⟩
  · obtain ⟨as, r1⟩ := Dp.reads I d x v hd rx
    obtain ⟨bs, r2⟩ := Dp.reads I (.tuple ds) y u he ry
    exact SeqAt.in_tuple_reads r2 r1 (SeqAt.canLay_of_shaped se) (SeqAt.canLay_of_shaped sd) (room_in_shaped sd hu) ⟨.bl _, H, I, rfl, q⟩
theorem op_notInD2 {X : Cx} (hu : X.A.units + 65 < cLine) : OpR X (compareOp .NotIn) (rInD2 true X.K) := by
  intro pins s σ H x y v u Q I rx ry h
  obtain ⟨d, ds, hd, ⟨he, se⟩ | ⟨he, se⟩, sd, q⟩ := h
  · obtain ⟨as, r1⟩ := Dp.reads I d x v hd rx
    obtain ⟨bs, r2⟩ := Dp.reads I (.list ds) y u he ry
    exact SeqAt.notIn_list_reads r2 r1 (SeqAt.canLay_of_shaped se) (SeqAt.canLay_of_shaped sd) (room_in_shaped sd hu) ⟨.bl _, H, I, rfl, q⟩
  · obtain ⟨as, r1⟩ := Dp.reads I d x v hd rx
    obtain ⟨bs, r2⟩ := Dp.reads I (.tuple ds) y u he ry
    exact SeqAt.notIn_tuple_reads r2 r1 (SeqAt.canLay_of_shaped se) (SeqAt.canLay_of_shaped sd) (room_in_shaped sd hu) ⟨.bl _, H, I, rfl, q⟩
theorem any_toPyL (ys : List D) (x : D) : (toPyL ys).any (fun z => PyData.eqv z x.toPy) = ys.any fun z => PyData.eqv z.toPy x.toPy := by
  induction ys with
  | nil => rfl
  | cons y ys ih => rw [toPyL, List.any_cons, List.any_cons, ih]
theorem lf_inD {K : PySem.W.Frag} (neg : Bool) : Leaf2 K T (rInD2 neg K) (fInD neg) := fun F G H σ δ x y v w Qd Q R px py hf k => by
  unfold fInD at hf
  split at hf
  · rename_i ys
    obtain ⟨f1, f2, q⟩ := hf
    refine ⟨x.toPy, toPyL ys, dp_of R.ex x v (okE_lay f1) px, .inl ⟨?_, ?_⟩, f1, ?_⟩
    · have := dp_of R.ex (.lst ys) w (okE_lay f2) py
      simpa only [D.toPy] using this
    · simpa only [okE, D.toPy] using f2
    · rw [any_toPyL]
      exact k G H _ (.bl _) (Ex.refl G) R rfl q
  · rename_i ys
    obtain ⟨f1, f2, q⟩ := hf
    refine ⟨x.toPy, toPyL ys, dp_of R.ex x v (okE_lay f1) px, .inr ⟨?_, ?_⟩, f1, ?_⟩
    · have := dp_of R.ex (.tup ys) w (okE_lay f2) py
      simpa only [D.toPy] using this
    · simpa only [okE, D.toPy] using f2
    · rw [any_toPyL]
      exact k G H _ (.bl _) (Ex.refl G) R rfl q
  · exact hf.elim
section
variable {X : Cx} {W : WX} {a b : Expr} {ra rb : DE} {pos : Pos}
theorem dx_inD (hu : X.A.units + 65 < cLine) (ha : PE X a (up X.K T W ra)) (hb : PE X b (up X.K T W rb)) (hm : behindInMarks .In b = false := by rfl) : PE X (.Compare a [.In] [b] pos) (up X.K T W (dBin (fInD false) ra rb)) := dx_cmp (op_inD2 hu) (lf_inD false) ha hb hm
theorem dx_notinD (hu : X.A.units + 65 < cLine) (ha : PE X a (up X.K T W ra)) (hb : PE X b (up X.K T W rb)) (hm : behindInMarks .NotIn b = false := by rfl) : PE X (.Compare a [.NotIn] [b] pos) (up X.K T W (dBin (fInD true) ra rb)) := dx_cmp (op_notInD2 hu) (lf_inD true) ha hb hm
theorem dt_inD (hu : X.A.units + 65 < cLine) (ha : PE X a (up X.K T W ra)) (hb : PE X b (up X.K T W rb)) (hm : behindInMarks .In b = false := by rfl) : PT X (.Compare a [.In] [b] pos) (upT X.K T W (dB (dBin (fInD false) ra rb))) := dt_cmp (op_inD2 hu) (lf_inD false) ha hb hm
theorem dt_notinD (hu : X.A.units + 65 < cLine) (ha : PE X a (up X.K T W ra)) (hb : PE X b (up X.K T W rb)) (hm : behindInMarks .NotIn b = false := by rfl) : PT X (.Compare a [.NotIn] [b] pos) (upT X.K T W (dB (dBin (fInD true) ra rb))) := dt_cmp (op_notInD2 hu) (lf_inD true) ha hb hm
end
/-! ### max of a list of tuples of ints -/
def rowP (r : List Int) : PyData := .tuple (r.map .int)
def rowD (r : List Int) : D := .tup (r.map .int)
theorem toPyL_ints (r : List Int) : toPyL (r.map D.int) = r.map .int := by
  induction r with
  | nil => rfl
  | cons i r ih => rw [List.map_cons, toPyL, ih, List.map_cons]; rfl
theorem rowD_toPy (r : List Int) : (rowD r).toPy = rowP r := by
  unfold rowD rowP
  rw [D.toPy, toPyL_ints]
theorem dataLt_rows (r s : List Int) : PySem.W.dataLt (rowP r) (rowP s) = decide (r < s) := by
  unfold rowP
  rw [PySem.W.dataLt_tuple]
  exact PySem.W.dataLt_ints r s
theorem maxD_rows : ∀ (rs : List (List Int)) (r : List Int), ∃ m ∈ r :: rs, PySem.W.maxD (rowP r) (rs.map rowP) = rowP m ∧ ∀ y ∈ r :: rs, ¬ m < y
  | [], r => ⟨r, List.mem_cons_self, rfl, fun y hy => by rw [List.mem_singleton.mp hy]; exact List.lt_irrefl r⟩
  | s :: rs, r => by
    by_cases h : r < s
    · obtain ⟨m, h1, h2, h3⟩ := maxD_rows rs s
      refine ⟨m, List.mem_cons_of_mem _ h1, ?_, fun y hy => ?_⟩
      · rw [← h2]
        unfold PySem.W.maxD
        rw [List.map_cons, List.foldl_cons, dataLt_rows, decide_eq_true h, if_pos rfl]
      · rcases List.mem_cons.mp hy with rfl | hy
        · have h' := List.not_lt.mp (List.lt_asymm h)
          exact List.not_lt.mpr (List.le_trans h' (List.not_lt.mp (h3 s List.mem_cons_self)))
        · exact h3 y hy
    · obtain ⟨m, h1, h2, h3⟩ := maxD_rows rs r
      refine ⟨m, ?_, ?_, fun y hy => ?_⟩
      · rcases List.mem_cons.mp h1 with rfl | h1
        · exact List.mem_cons_self
        · exact List.mem_cons_of_mem _ (List.mem_cons_of_mem _ h1)
      · rw [← h2]
        unfold PySem.W.maxD
        rw [List.map_cons, List.foldl_cons, dataLt_rows, decide_eq_false h, if_neg Bool.false_ne_true]
      · rcases List.mem_cons.mp hy with rfl | hy
        · exact h3 _ List.mem_cons_self
        · rcases List.mem_cons.mp hy with rfl | hy
          · exact List.not_lt.mpr (List.le_trans (List.not_lt.mp h) (List.not_lt.mp (h3 r List.mem_cons_self)))
          · exact h3 y (List.mem_cons_of_mem _ hy)
theorem alike_ints : ∀ r s : List Int, PySem.W.alikeAll (r.map .int) (s.map .int) = true
  | [], _ => by rw [List.map_nil, PySem.W.alikeAll]
  | _ :: _, [] => by rw [List.map_cons, List.map_nil, PySem.W.alikeAll]
  | _ :: r, _ :: s => by rw [List.map_cons, List.map_cons, PySem.W.alikeAll, PySem.W.alike, alike_ints r s]; rfl
theorem alike_rows (rs : List (List Int)) : PySem.W.AlikeAll (rs.map rowP) := by
  refine ⟨fun x hx y hy => ?_, fun x hx => ?_⟩
  · obtain ⟨r, _, rfl⟩ := List.mem_map.mp hx
    obtain ⟨s, _, rfl⟩ := List.mem_map.mp hy
    unfold rowP
    rw [PySem.W.alike]
    exact alike_ints r s
  · obtain ⟨r, _, rfl⟩ := List.mem_map.mp hx
    exact fun z => nomatch z
theorem depth_ints : ∀ r : List Int, PyData.depthAll (r.map .int) ≤ 1
  | [] => by simp [PyData.depthAll]
  | i :: r => by
    have := depth_ints r
    simp only [List.map_cons, PyData.depthAll, PyData.depth]
    omega
theorem depth_rows : ∀ rs : List (List Int), PyData.depthAll (rs.map rowP) ≤ 3
  | [] => by simp [PyData.depthAll]
  | r :: rs => by
    have h1 := depth_rows rs
    have h2 := depth_ints r
    simp only [List.map_cons, PyData.depthAll, rowP, PyData.depth]
    omega
theorem canLay_ints : ∀ r : List Int, PyData.canLayAll0 (r.map .int) = true
  | [] => rfl
  | i :: r => by
    have := canLay_ints r
    simp only [List.map_cons, PyData.canLayAll0, this, PyData.canLay0, Bool.true_and]
theorem canLay_row (r : List Int) : (rowP r).canLay0 = true := by
  have := canLay_ints r
  simpa only [rowP, PyData.canLay0] using this
def rMaxR (K : PySem.W.Frag) : List V → Hp → VK → Prop := fun vs H Q => ∃ (a : Addr) (us : List V) (rs : List (List Int)), vs = [V.ref a] ∧ SqL K H a us ∧ DpAll K H us (rs.map rowP) ∧ rs ≠ [] ∧
  ∀ (i : Nat) (m : List Int) (u : V), rs[i]? = some m → us[i]? = some u → (∀ y ∈ rs, ¬ m < y) → Q u H
theorem DpAll.length {K : PySem.W.Frag} {H : Hp} : ∀ {us : List V} {ds : List PyData}, DpAll K H us ds → us.length = ds.length
  | _, _, .nil => rfl
  | _, _, .cons _ h => by rw [List.length_cons, List.length_cons, DpAll.length h]
theorem rowP_inj {r s : List Int} (h : rowP r = rowP s) : r = s := by
  unfold rowP at h
  injection h with h
  have e : ∀ l : List Int, (l.map PyData.int).map (fun d => match d with | .int i => i | _ => 0) = l := fun l => by
    rw [List.map_map]
    have : l.map ((fun d : PyData => match d with | .int i => i | _ => 0) ∘ PyData.int) = l.map id := List.map_congr_left fun _ _ => rfl
    rw [this, List.map_id]
  rw [← e r, h, e]
theorem readsAll_get {h : Heap} : ∀ (xs : List PyData) (vs : List Value) (as : List Addr), ReadsAll h vs xs as → ∀ (i : Nat) (v : Value) (x : PyData), vs[i]? = some v → xs[i]? = some x → ∃ bs, Reads h v x bs
  | [], _, _, r, i, v, x, hv, hx => by cases hx
  | y :: xs, _, _, r, i, v, x, hv, hx => by
    cases r with
    | cons r1 r2 =>
      cases i with
      | zero =>
        cases hv; cases hx
        exact ⟨_, r1⟩
      | succ i => exact readsAll_get xs _ _ r2 i v x hv hx
theorem cr_maxR {X : Cx} (hc : X.calm = true) (hu : X.A.units + 65 < cLine) : CallR X (.builtin "max") (rMaxR X.K) := by
  intro pins s σ H vs us Q I r h
  obtain ⟨a, ws, rs, rfl, hs, hd, hne, q⟩ := h
  obtain ⟨its, rv, hl, hz⟩ := I.list hs
  rw [Vals.ref1 r]
  obtain ⟨as, hr⟩ := Dp.readsAll I (rs.map rowP) ws its hd rv
  match rs, hne, hr, hd, q with
  | r0 :: rs, _, hr, hd, q =>
    have hdep := depth_rows (r0 :: rs)
    obtain ⟨m, m1, m2, m3⟩ := maxD_rows rs r0
    refine PySem.W.max_list_data (I.ok.hd hc) hl.isList hr (alike_rows (r0 :: rs)) (by rw [← List.map_cons]; omega) fun i v h' tk bs hi rd hk => ?_
    have hi' : its[i]? = some v := by simpa using hi
    have hil : i < its.length := (List.getElem?_eq_some_iff.mp hi').1
    have hwl : ws.length = its.length := rv.length
    have hdl := DpAll.length hd
    rw [List.length_map] at hdl
    have hir : i < (r0 :: rs).length := by omega
    obtain ⟨cs, rd0⟩ := readsAll_get _ _ _ hr i v (rowP ((r0 :: rs)[i])) hi' (by rw [List.getElem?_map, List.getElem?_eq_getElem hir]; rfl)
    have rd1 := PySem.W.reads_keeps hk rd0
    rw [m2] at rd
    have e := (SeqAt.readOf_eq (canLay_row _) rd1).symm.trans (SeqAt.readOf_eq (canLay_row _) rd)
    have e := rowP_inj e
    have hw : i < ws.length := by omega
    obtain ⟨v', hv', rel⟩ := rv.get (List.getElem?_eq_getElem hw)
    rw [hi'] at hv'
    cases hv'
    exact ⟨ws[i], H, I.kept (t' := tk) hk, rel, q i ((r0 :: rs)[i]) ws[i] (List.getElem?_eq_getElem hir) (List.getElem?_eq_getElem hw) (by rw [e]; exact m3)⟩
def gMaxR : List D → (D → Prop) → Prop
  | [.lst xs], Q => ∃ rs : List (List Int), xs = rs.map rowD ∧ rs ≠ [] ∧ ∀ m ∈ rs, (∀ y ∈ rs, ¬ m < y) → Q (rowD m)
  | _, _ => False
theorem dpRows {K : PySem.W.Frag} {G H : Hp} (e : Ex G H) : ∀ {rs : List (List Int)} {us : List V}, RpL K G (rs.map rowD) us → DpAll K H us (rs.map rowP)
  | [], _, h => by rw [show _ = _ from h]; exact .nil
  | r :: rs, _, h => by
    obtain ⟨u, us, rfl, h1, h2⟩ := h
    refine .cons ?_ (dpRows e h2)
    rw [← rowD_toPy]
    exact dp_of e _ u (by rw [rowD_toPy]; exact canLay_row r) h1
theorem lc_maxR {K : PySem.W.Frag} {T : List (Addr × Str)} : LeafC K T (rMaxR K) gMaxR := fun F G H σ δ ds vs Qd Q R p hf k => by
  unfold gMaxR at hf
  split at hf
  · obtain ⟨rs, rfl, hne, q⟩ := hf
    obtain ⟨v, rfl, a, us, rfl, h1, h2⟩ := one_of p
    refine ⟨a, us, rs, rfl, ex_lt R.ex h1, dpRows R.ex h2, hne, fun i m u hm hu hmax => ?_⟩
    obtain ⟨u', hu', rp⟩ := h2.get (show (rs.map rowD)[i]? = some (rowD m) by rw [List.getElem?_map, hm]; rfl)
    rw [hu] at hu'
    cases hu'
    exact k G H u (rowD m) (Ex.refl G) R rp (q m (List.mem_of_getElem? hm) hmax)
  · exact hf.elim
end DL


set_option Elab.async false
set_option linter.all false
set_option maxRecDepth 100000
set_option maxHeartbeats 4000000
set_option autoImplicit true
namespace DL
open PySem PySem.Spec PyProof.Rows L2
/-! ### a dict that is gone through: locked -/
open Classical in
def hmin (G : Hp) (p : Addr) : Hp := fun a => if a = p then none else G a
theorem hmin_ne {G : Hp} {p a : Addr} (h : a ≠ p) : hmin G p a = G a := by unfold hmin; rw [if_neg h]
theorem hmin_same {G : Hp} {p : Addr} : hmin G p p = none := by unfold hmin; rw [if_pos rfl]
section
variable {K : PySem.W.Frag} {G : Hp} {p : Addr} {ob : Obj} {kvs : List (Key × V)}
theorem sq_minus {a : Addr} {xs : List V} (hp : G p = some (.frz ob (.dK kvs))) (h : SqL K G a xs) : SqL K (hmin G p) a xs := by
  have ne : ∀ o, G a = some o → (∀ ob' kv', o ≠ .frz ob' (.dK kv')) → hmin G p a = some o := fun o h1 h2 => by
    rw [hmin_ne (fun z => by rw [z, hp] at h1; exact h2 _ _ (Option.some.inj h1).symm)]; exact h1
  rcases h with h | h
  · rcases h with h | ⟨ob', h⟩
    · exact .inl (.inl (ne _ h fun _ _ z => nomatch z))
    · exact .inl (.inr ⟨ob', ne _ h fun _ _ z => nomatch z⟩)
  · exact .inr h
theorem sqt_minus {a : Addr} {xs : List V} (hp : G p = some (.frz ob (.dK kvs))) (h : SqT K G a xs) : SqT K (hmin G p) a xs := by
  have ne : ∀ o, G a = some o → (∀ ob' kv', o ≠ .frz ob' (.dK kv')) → hmin G p a = some o := fun o h1 h2 => by
    rw [hmin_ne (fun z => by rw [z, hp] at h1; exact h2 _ _ (Option.some.inj h1).symm)]; exact h1
  rcases h with h | h
  · rcases h with h | ⟨ob', h⟩
    · exact .inl (.inl (ne _ h fun _ _ z => nomatch z))
    · exact .inl (.inr ⟨ob', ne _ h fun _ _ z => nomatch z⟩)
  · exact .inr h
mutual
theorem Rp.minus (hp : G p = some (.frz ob (.dK kvs))) : ∀ (d : D) (v : V), Rp K G d v → Rp K (hmin G p) d v
  | .non, _, h => h
  | .bl _, _, h => h
  | .int _, _, h => h
  | .str _, _, h => h
  | .opq _, _, h => h
  | .lst ds, v, h => by
    obtain ⟨a, xs, h1, h2, h3⟩ := h
    refine ⟨a, xs, h1, ?_, RpL.minus hp ds xs h3⟩
    rw [hmin_ne (fun z => by rw [z, hp] at h2; cases h2)]; exact h2
  | .sq ds, v, h => by
    obtain ⟨a, xs, h1, h2, h3⟩ := h
    exact ⟨a, xs, h1, sq_minus hp h2, RpL.minus hp ds xs h3⟩
  | .tup ds, v, h => by
    obtain ⟨a, xs, h1, h2, h3⟩ := h
    exact ⟨a, xs, h1, sqt_minus hp h2, RpL.minus hp ds xs h3⟩
  | .dic ks ds, v, h => by
    obtain ⟨a, o, xs, h1, h2, h3, h4⟩ := h
    refine ⟨a, o, xs, h1, ?_, h3, RpL.minus hp ds xs h4⟩
    rw [hmin_ne (fun z => by
      obtain ⟨kv, rfl, _⟩ := h3
      rw [z, hp] at h2; cases h2)]
    exact h2
theorem RpL.minus (hp : G p = some (.frz ob (.dK kvs))) : ∀ (ds : List D) (vs : List V), RpL K G ds vs → RpL K (hmin G p) ds vs
  | [], _, h => h
  | d :: ds, vs, h => by
    obtain ⟨x, r, h1, h2, h3⟩ := h
    exact ⟨x, r, h1, Rp.minus hp d x h2, RpL.minus hp ds r h3⟩
end
end
theorem owns_lk : ∀ (δ : Ev) (i : Nat) (s t : Sl), δ[i]? = some s → s.own = t.own → owns (δ.set i t) = owns δ
  | [], _, _, _, h, _ => by simp at h
  | a :: δ, 0, s, t, h, e => by
    rw [List.getElem?_cons_zero] at h
    cases h
    show List.filterMap Sl.own (t :: δ) = List.filterMap Sl.own (a :: δ)
    rw [List.filterMap_cons, List.filterMap_cons, e]
  | a :: δ, i + 1, s, t, h, e => by
    rw [List.getElem?_cons_succ] at h
    show List.filterMap Sl.own (a :: δ.set i t) = List.filterMap Sl.own (a :: δ)
    rw [List.filterMap_cons, List.filterMap_cons]
    have ih : List.filterMap Sl.own (δ.set i t) = List.filterMap Sl.own δ := owns_lk δ i s t h e
    rw [ih]
/-- one slot exchanged for another one of the same owner, the heaps at its address alone -/
theorem SlL.lk {K : PySem.W.Frag} {G G' H H' : Hp} {p : Addr} {s t : Sl} (hs : s.own = some p) (ht : ∀ w, SlOk K G H s w → SlOk K G' H' t w)
    (ho : ∀ (r : Sl) (w : Option V), r.own ≠ some p → SlOk K G H r w → SlOk K G' H' r w) : ∀ {δ : Ev} {σ : L2.St} {j : Nat}, δ[j]? = some s → (owns δ).Nodup → SlL K G H δ σ → SlL K G' H' (δ.set j t) σ
  | [], _, _, e, _, _ => by simp at e
  | r :: δ, _, 0, e, nd, .cons (v := w) (σ := σ) h q => by
    rw [List.getElem?_cons_zero] at e
    cases e
    have nd : (p :: owns δ).Nodup := by
      have e1 : owns (s :: δ) = List.filterMap Sl.own (s :: δ) := rfl
      rw [e1, List.filterMap_cons, hs] at nd
      exact nd
    refine .cons (ht _ h) ?_
    have all : ∀ {δ : Ev} {σ : L2.St}, p ∉ owns δ → SlL K G H δ σ → SlL K G' H' δ σ := by
      intro δ σ hn q
      induction q with
      | nil => exact .nil
      | @cons r w δ σ h q ih =>
        refine .cons (ho _ _ (fun z => hn ?_) h) (ih fun z => hn ?_)
        · exact List.mem_filterMap.mpr ⟨r, List.mem_cons_self, z⟩
        · obtain ⟨x, x1, x2⟩ := List.mem_filterMap.mp z
          exact List.mem_filterMap.mpr ⟨x, List.mem_cons_of_mem _ x1, x2⟩
    exact all (List.nodup_cons.mp nd).1 q
  | r :: δ, _, j + 1, e, nd, .cons (v := w) (σ := σ) h q => by
    rw [List.getElem?_cons_succ] at e
    have sub : (owns δ).Sublist (owns (r :: δ)) := by
      show (List.filterMap Sl.own δ).Sublist (List.filterMap Sl.own (r :: δ))
      rw [List.filterMap_cons]
      split
      · exact List.Sublist.refl _
      · exact List.sublist_cons_self _ _
    refine .cons (ho _ _ (fun z => ?_) h) (SlL.lk hs ht ho e (nd.sublist sub) q)
    have e1 : owns (r :: δ) = List.filterMap Sl.own (r :: δ) := rfl
    rw [e1, List.filterMap_cons, z] at nd
    exact (List.nodup_cons.mp nd).1 (List.mem_filterMap.mpr ⟨s, List.mem_of_getElem? e, hs⟩)
section
variable {K : PySem.W.Frag} {T : List (Addr × Str)} {F : Fm} {G H : Hp} {σ : L2.St} {δ : Ev} {j : Nat} {p : Addr} {ks vs : List D} {ob : Obj} {kvs : List (Key × V)}
theorem lk_mem {s : Sl} (e : δ[j]? = some s) (hs : s.own = some p) : p ∈ owns δ := List.mem_filterMap.mpr ⟨_, List.mem_of_getElem? e, hs⟩
theorem Rel.lock (R : Rel K T F G H σ δ) (e : δ[j]? = some (.h p ks vs)) (ho : H p = some (.dK kvs)) (hk : ks = kvs.map fun q => keyD q.1) (hv : RpL K G vs (kvs.map (·.2))) (f : HO) (hf : f = .frz ob (.dK kvs)) : Rel K T F (upd G p f) (upd H p f) σ (δ.set j (.k p f ks vs)) := by
  obtain ⟨h1, h2, _⟩ := R.hget e
  have hmem : p ∈ owns δ := lk_mem e rfl
  have exG : Ex G (upd G p f) := Ex.new h2
  have nt : ∀ ps, f ≠ .tbl ps := by rw [hf]; exact fun _ z => nomatch z
  have nB : ∀ a, a ∉ F.B → nT F.H0 a → a ≠ p := fun a a1 a2 z => by
    rcases R.own p hmem with q | q
    · exact a1 (by rw [z]; exact q)
    · exact q (by rw [← z]; exact a2)
  exact {
    ex := fun a o h => by
      by_cases z : a = p
      · rw [z, upd_same] at h ⊢; exact h
      · rw [upd_ne z] at h ⊢; exact R.ex a o h
    sl := SlL.lk (K := K) (G := G) (G' := upd G p f) (H := H) (H' := upd H p f) (p := p) (s := .h p ks vs) (t := .k p f ks vs) rfl (fun w ok => ⟨ok.1, upd_same, ob, kvs, hf, hk, RpL.mono exG _ _ hv⟩) (fun r w hr ok => ok.mono exG fun q o hq _ a b => by
      have ne : q ≠ p := fun z => hr (by rw [hq, z])
      exact ⟨by rw [upd_ne ne]; exact a, by rw [upd_ne ne]; exact b⟩) e R.sep R.sl
    sep := by rw [owns_lk δ j (.h p ks vs) (.k p f ks vs) e rfl]; exact R.sep
    own := fun q hq => R.own q (by rw [owns_lk δ j (.h p ks vs) (.k p f ks vs) e rfl] at hq; exact hq)
    keep := fun a o' a1 a2 a3 => by
      rw [upd_ne (nB a a1 ⟨o', a2, a3⟩)]; exact R.keep a o' a1 a2 a3
    there := fun a h => nT_un nt fun _ => R.there a h
    gh := fun a a1 a2 a3 => by
      rw [upd_ne (nB a a1 a2)] at a3
      exact R.gh a a1 a2 a3
    tab := by
      have t1 := tabs_upd (o := f) R.tab (by rw [ho]; exact fun ps z => nomatch z) (by rw [ho]; exact fun q z => nomatch z)
      exact ⟨t1.1, noT_upd R.tab.2 nt⟩ }
theorem Rel.unlock {f : HO} (R : Rel K T F G H σ δ) (e : δ[j]? = some (.k p f ks vs)) (hf : f = .frz ob (.dK kvs)) : Rel K T F (hmin G p) (upd H p (.dK kvs)) σ (δ.set j (.h p ks vs)) := by
  obtain ⟨w, hw, ok⟩ := R.sl.get e
  obtain ⟨h1, h2, ob', kvs', h3, h4, h5⟩ := ok
  have hmem : p ∈ owns δ := lk_mem e rfl
  have hG : G p = some (.frz ob (.dK kvs)) := by rw [h2, hf]
  have e2 : kvs' = kvs := by
    rw [hf] at h3
    injection h3 with _ h3
    injection h3 with h3
    exact h3.symm
  rw [e2] at h4 h5
  have nB : ∀ a, a ∉ F.B → nT F.H0 a → a ≠ p := fun a a1 a2 z => by
    rcases R.own p hmem with q | q
    · exact a1 (by rw [z]; exact q)
    · exact q (by rw [← z]; exact a2)
  have nt : ∀ ps, (HO.dK kvs) ≠ .tbl ps := fun _ z => nomatch z
  exact {
    ex := fun a o h => by
      by_cases z : a = p
      · rw [z, hmin_same] at h; cases h
      · rw [hmin_ne z] at h
        rw [upd_ne z]; exact R.ex a o h
    sl := SlL.lk (K := K) (G := G) (G' := hmin G p) (H := H) (H' := upd H p (.dK kvs)) (p := p) (s := .k p f ks vs) (t := .h p ks vs) rfl (fun w ok => ⟨ok.1, hmin_same, .dK kvs, kvs.map (·.2), upd_same, ⟨kvs, rfl, h4, rfl⟩, RpL.minus hG _ _ h5⟩) (fun r w hr ok => by
      cases r with
      | u => trivial
      | d x =>
        obtain ⟨v, a1, a2⟩ := ok
        exact ⟨v, a1, Rp.minus hG _ _ a2⟩
      | o q xs =>
        obtain ⟨a1, a2, us, a3, a4⟩ := ok
        have ne : q ≠ p := fun z => hr (by rw [z]; rfl)
        exact ⟨a1, by rw [hmin_ne ne]; exact a2, us, by rw [upd_ne ne]; exact a3, RpL.minus hG _ _ a4⟩
      | h q ks' vs' =>
        obtain ⟨a1, a2, o, us, a3, a4, a5⟩ := ok
        have ne : q ≠ p := fun z => hr (by rw [z]; rfl)
        exact ⟨a1, by rw [hmin_ne ne]; exact a2, o, us, by rw [upd_ne ne]; exact a3, a4, RpL.minus hG _ _ a5⟩
      | k q f' ks' vs' =>
        obtain ⟨a1, a2, ob2, kv2, a3, a4, a5⟩ := ok
        have ne : q ≠ p := fun z => hr (by rw [z]; rfl)
        exact ⟨a1, by rw [hmin_ne ne]; exact a2, ob2, kv2, a3, a4, RpL.minus hG _ _ a5⟩) e R.sep R.sl
    sep := by rw [owns_lk δ j (.k p f ks vs) (.h p ks vs) e rfl]; exact R.sep
    own := fun q hq => R.own q (by rw [owns_lk δ j (.k p f ks vs) (.h p ks vs) e rfl] at hq; exact hq)
    keep := fun a o' a1 a2 a3 => by
      rw [upd_ne (nB a a1 ⟨o', a2, a3⟩)]; exact R.keep a o' a1 a2 a3
    there := fun a h => nT_un nt fun _ => R.there a h
    gh := fun a a1 a2 a3 => by
      rw [hmin_ne (nB a a1 a2)] at a3
      exact R.gh a a1 a2 a3
    tab := by
      have hH := R.ex _ _ hG
      have t1 := tabs_upd (o := .dK kvs) R.tab (by rw [hH]; exact fun ps z => nomatch z) (by rw [hH]; exact fun q z => nomatch z)
      refine ⟨t1.1, fun a ps z => ?_⟩
      by_cases c : a = p
      · rw [c, hmin_same] at z; cases z
      · rw [hmin_ne c] at z; exact R.tab.2 a ps z }
theorem Rel.kget (R : Rel K T F G H σ δ) {f : HO} (e : δ[j]? = some (.k p f ks vs)) : σ[j]? = some (some (.ref p)) ∧ G p = some f ∧ ∃ ob kvs, f = .frz ob (.dK kvs) ∧ ks = kvs.map (fun q => keyD q.1) ∧ RpL K G vs (kvs.map (·.2)) := by
  obtain ⟨w, hw, h1, h2, h3⟩ := R.sl.get e
  rw [h1] at hw
  exact ⟨hw, h2, h3⟩
end
/-! ### rules -/
/-- a comprehension (its items flat) while the dict in slot j is locked -/
def fLk (j : Nat) (r : DF) : DF := fun _ δ Q => match δ[j]? with
  | some (.h p ks vs) => ∀ f, r (fun _ _ => False) (δ.set j (.k p f ks vs)) fun xs δ' => δ' = δ.set j (.k p f ks vs) ∧ xs.all flatD = true ∧ Q xs δ
  | _ => False
/-- the keys of the locked dict in slot j -/
def iK (j : Nat) : DF := fun _ δ Q => match δ[j]? with
  | some (.k _ _ ks _) => Q ks δ
  | _ => False
def dKGet (j : Nat) (rk : DE) : DE := fun Xc δ Q => match δ[j]? with
  | some (.k _ _ _ _) => rk Xc δ fun k δ1 => match δ1[j]? with
    | some (.k _ _ ks vs) => keyOk k = true ∧ ∃ v, lkD ks vs k = some v ∧ Q v δ1
    | _ => False
  | _ => False
def dKIn (neg : Bool) (j : Nat) (rk : DE) : DE := fun Xc δ Q => rk Xc δ fun k δ1 => match δ1[j]? with
    | some (.k _ _ ks _) => keyOk k = true ∧ Q (.bl (if neg then !hasK ks k else hasK ks k)) δ1
    | _ => False
/-- a statement while the dict in slot j is locked -/
def sLk (j : Nat) (r : DS) : DS := fun Dd δ => match δ[j]? with
  | some (.h p ks vs) => ∀ f, r { nx := fun δ' => δ'[j]? = some (.k p f ks vs) ∧ Dd.nx (δ'.set j (.h p ks vs)), rt := fun _ _ => False } (δ.set j (.k p f ks vs))
  | _ => False
theorem set_hk {δ : Ev} {j : Nat} {s t : Sl} (h : δ[j]? = some s) : (δ.set j t).set j s = δ := by
  rw [List.set_set]
  have hj := (List.getElem?_eq_some_iff.mp h).1
  rw [← (List.getElem?_eq_some_iff.mp h).2]
  exact List.set_getElem_self hj
theorem itok_k {K : PySem.W.Frag} {T : List (Addr × Str)} {G : Hp} {p : Addr} {o : Obj} {kvs : List (Key × V)} (h : G p = some (.frz o (.dK kvs))) : ItOk K T G (Itk p o kvs) (kvs.map fun q => keyD q.1) := fun F G1 H1 σ1 δ1 i e R => by
  have h1 : H1 p = some (.frz o (.dK kvs)) := R.ex _ _ (e _ _ h)
  refine ⟨fun hi => ⟨h1, by rw [List.length_map] at hi; exact hi⟩, fun x hx => ?_⟩
  rw [List.getElem?_map] at hx
  cases hk : kvs[i]? with
  | none => rw [hk] at hx; cases hx
  | some q =>
    rw [hk] at hx
    obtain rfl := Option.some.inj hx
    refine ⟨⟨h1, (List.getElem?_eq_some_iff.mp hk).1⟩, fun v H2 ⟨e2, k, w, hw, ev⟩ => ?_⟩
    subst e2
    rw [hk] at hw
    cases hw
    subst ev
    exact ⟨G1, Ex.refl G1, R, by cases k <;> exact rfl⟩
section
variable {X : Cx} {T : List (Addr × Str)} {W : WX} {b e : Expr} {rk : DE} {pos : Pos}
theorem di_k {tg : Expr} (j : Nat) {x : Str} {px : Pos} (hN : X.N[j]? = some x := by rfl) (hv : Vis X.env.scope x := by first | exact Or.inl rfl | exact Or.inr (Or.inl rfl) | exact Or.inr (Or.inr rfl)) (hd : (x == ("__debug__" : Str)) = false := by decide)
    (hcd : (x == ("__classdict__" : Str)) = false := by decide) : PI X tg (.Name x px) (upI X.K T W (iK j)) := PIi (pi_keys (pe_var hN hv hd hcd)) fun σ H R h => by
  obtain ⟨F, G, δ, Xc, Qd, Rl, hr, hx, k⟩ := h
  unfold iK at hr
  split at hr
  · rename_i p f ks vs hj
    obtain ⟨h1, h2, o, kvs, rfl, rfl, h5⟩ := Rl.kget hj
    exact ⟨_, h1, p, o, rfl, .inl ⟨kvs, Rl.ex _ _ h2, k G H _ _ δ (Ex.refl G) Rl (itok_k h2) hr⟩⟩
  · exact hr.elim
theorem dx_kget (j : Nat) {x : Str} {px : Pos} (hu : X.A.units + 1 < cLine) (hb : PE X b (up X.K T W rk)) (hN : X.N[j]? = some x := by rfl) (hv : Vis X.env.scope x := by first | exact Or.inl rfl | exact Or.inr (Or.inl rfl) | exact Or.inr (Or.inr rfl)) (hs : NoSl b := by exact fun _ _ => rfl) (hd : (x == ("__debug__" : Str)) = false := by decide)
    (hcd : (x == ("__classdict__" : Str)) = false := by decide) : PE X (.Subscript (.Name x px) b pos) (up X.K T W (dKGet j rk)) := PEi (pe_dget hu (pe_var hN hv hd hcd) hb hs) fun σ H Q h => by
  obtain ⟨F, G, δ, Xc, Qd, R, hr, hx, k⟩ := h
  unfold dKGet at hr
  split at hr
  · rename_i p0 f0 ks0 vs0 hj0
    obtain ⟨h0, _⟩ := R.kget hj0
    refine ⟨_, h0, F, G, δ, Xc, _, R, hr, hx, fun G1 H1 w kd δ1 e1 R1 p1 q1 => ?_⟩
    split at q1
    · rename_i p f ks vs hj
      obtain ⟨kk, z, hz, q⟩ := q1
      obtain ⟨h1, h2, o, kvs, rfl, rfl, h5⟩ := R1.kget hj
      rw [h0] at h1
      cases h1
      obtain ⟨key, rfl⟩ := keyOk_of kk
      obtain ⟨u, hu', pu⟩ := (lk_val (k := key) h5).1 z hz
      have ew : w = kV key := by cases key <;> exact p1
      subst ew
      exact ⟨p0, u, rfl, .inl ⟨kvs, key, .inr ⟨o, R1.ex _ _ h2⟩, rfl, hu'.symm⟩, k G1 H1 u z δ1 e1 R1 pu q⟩
    · exact q1.elim
  · exact hr.elim
theorem kin_core {j : Nat} {neg : Bool} : ∀ σ H Q, up X.K T W (dKIn neg j rk) σ H Q → up X.K T W rk σ H fun y H1 => ∃ a kvs key o, σ[j]? = some (some (.ref a)) ∧ y = kV key ∧ H1 a = some (.frz o (.dK kvs)) ∧ Q (.bl (if neg then !(valV kvs key).isSome else (valV kvs key).isSome)) H1 := fun σ H Q h => by
  obtain ⟨F, G, δ, Xc, Qd, R, hr, hx, k⟩ := h
  refine ⟨F, G, δ, Xc, _, R, hr, hx, fun G1 H1 w kd δ1 e1 R1 p1 q1 => ?_⟩
  split at q1
  · rename_i p f ks vs hj
    obtain ⟨kk, q⟩ := q1
    obtain ⟨h1, h2, o, kvs, rfl, rfl, h5⟩ := R1.kget hj
    obtain ⟨key, rfl⟩ := keyOk_of kk
    have ew : w = kV key := by cases key <;> exact p1
    rw [any_val, valV_any] at q
    exact ⟨p, kvs, key, o, h1, ew, R1.ex _ _ h2, k G1 H1 _ (.bl _) δ1 e1 R1 rfl q⟩
  · exact q1.elim
theorem dx_kin (j : Nat) {x : Str} {px : Pos} (hu : X.A.units + 1 < cLine) (hb : PE X b (up X.K T W rk)) (hN : X.N[j]? = some x := by rfl) (hv : Vis X.env.scope x := by first | exact Or.inl rfl | exact Or.inr (Or.inl rfl) | exact Or.inr (Or.inr rfl)) (hd : (x == ("__debug__" : Str)) = false := by decide)
    (hcd : (x == ("__classdict__" : Str)) = false := by decide) (hm : behindInMarks .In (.Name x px) = false := by rfl) : PE X (.Compare b [.In] [.Name x px] pos) (up X.K T W (dKIn false j rk)) := PEi (pe_cmp (pc_din hu hb (pe_var hN hv hd hcd)) hm) fun σ H Q h => hin_imp (kin_core σ H Q h) fun y H1 ⟨a, kvs, key, o, h1, h2, h3, q⟩ => ⟨_, h1, a, valV kvs key, rfl, by rw [h2]; exact .inl ⟨kvs, key, .inr ⟨o, h3⟩, rfl, rfl⟩, q⟩
theorem dx_knotin (j : Nat) {x : Str} {px : Pos} (hu : X.A.units + 1 < cLine) (hb : PE X b (up X.K T W rk)) (hN : X.N[j]? = some x := by rfl) (hv : Vis X.env.scope x := by first | exact Or.inl rfl | exact Or.inr (Or.inl rfl) | exact Or.inr (Or.inr rfl)) (hd : (x == ("__debug__" : Str)) = false := by decide)
    (hcd : (x == ("__classdict__" : Str)) = false := by decide) (hm : behindInMarks .NotIn (.Name x px) = false := by rfl) : PE X (.Compare b [.NotIn] [.Name x px] pos) (up X.K T W (dKIn true j rk)) := PEi (pe_cmp (pc_dnotin hu hb (pe_var hN hv hd hcd)) hm) fun σ H Q h => hin_imp (kin_core σ H Q h) fun y H1 ⟨a, kvs, key, o, h1, h2, h3, q⟩ => ⟨_, h1, a, valV kvs key, rfl, by rw [h2]; exact .inl ⟨kvs, key, .inr ⟨o, h3⟩, rfl, rfl⟩, q⟩
theorem dt_kin (j : Nat) {x : Str} {px : Pos} (hu : X.A.units + 1 < cLine) (hb : PE X b (up X.K T W rk)) (hN : X.N[j]? = some x := by rfl) (hv : Vis X.env.scope x := by first | exact Or.inl rfl | exact Or.inr (Or.inl rfl) | exact Or.inr (Or.inr rfl)) (hd : (x == ("__debug__" : Str)) = false := by decide)
    (hcd : (x == ("__classdict__" : Str)) = false := by decide) (hm : behindInMarks .In (.Name x px) = false := by rfl) : PT X (.Compare b [.In] [.Name x px] pos) (upT X.K T W (dB (dKIn false j rk))) := PTi (pt_cmp (pc_din hu hb (pe_var hN hv hd hcd)) hm) fun σ H Q h => hin_imp (kin_core σ H _ (dB_up σ H Q h)) fun y H1 ⟨a, kvs, key, o, h1, h2, h3, q⟩ => ⟨_, h1, a, valV kvs key, rfl, by rw [h2]; exact .inl ⟨kvs, key, .inr ⟨o, h3⟩, rfl, rfl⟩, q⟩
theorem dt_knotin (j : Nat) {x : Str} {px : Pos} (hu : X.A.units + 1 < cLine) (hb : PE X b (up X.K T W rk)) (hN : X.N[j]? = some x := by rfl) (hv : Vis X.env.scope x := by first | exact Or.inl rfl | exact Or.inr (Or.inl rfl) | exact Or.inr (Or.inr rfl)) (hd : (x == ("__debug__" : Str)) = false := by decide)
    (hcd : (x == ("__classdict__" : Str)) = false := by decide) (hm : behindInMarks .NotIn (.Name x px) = false := by rfl) : PT X (.Compare b [.NotIn] [.Name x px] pos) (upT X.K T W (dB (dKIn true j rk))) := PTi (pt_cmp (pc_dnotin hu hb (pe_var hN hv hd hcd)) hm) fun σ H Q h => hin_imp (kin_core σ H _ (dB_up σ H Q h)) fun y H1 ⟨a, kvs, key, o, h1, h2, h3, q⟩ => ⟨_, h1, a, valV kvs key, rfl, by rw [h2]; exact .inl ⟨kvs, key, .inr ⟨o, h3⟩, rfl, rfl⟩, q⟩
theorem df_lk (j : Nat) {rs : DF} (h : PE X e (upF X.K T W rs)) : PE X e (upF X.K T W (fLk j rs)) := PEi (pe_lock h) fun σ H Q h => by
  obtain ⟨F, G, δ, Xc, Qd, R, hr, hx, k⟩ := h
  unfold fLk at hr
  split at hr
  · rename_i p ks vs hj
    obtain ⟨h1, h2, o, us, h3, ⟨kvs, rfl, rfl, rfl⟩, h5⟩ := R.hget hj
    refine ⟨p, .dK kvs, h3, trivial, fun od => ?_⟩
    refine ⟨F, _, _, _, _, R.lock hj h3 rfl h5 _ rfl, hr _, fun _ _ _ _ _ _ z => z.elim, fun G' H' p' us xs δ' e' R' g hl rp hn ho q => ?_⟩
    obtain ⟨rfl, q1, q2⟩ := q
    have hj' : (δ.set j (.k p (.frz od (.dK kvs)) (kvs.map fun q => keyD q.1) vs))[j]? = some (.k p (.frz od (.dK kvs)) (kvs.map fun q => keyD q.1) vs) := by
      rw [List.getElem?_set_self (List.getElem?_eq_some_iff.mp hj).1]
    obtain ⟨_, g2, _⟩ := R'.kget hj'
    have ne : p' ≠ p := fun z => by rw [z, g2] at g; cases g
    have R2 := R'.unlock hj' rfl
    rw [set_hk hj] at R2
    refine ⟨R'.ex _ _ g2, k (hmin G' p) _ p' us xs δ (fun a o' ha => ?_) R2 (by rw [hmin_ne ne]; exact g) (by rw [upd_ne ne]; exact hl) (flat_rpl q1 rp) hn (by
      have e2 : owns (δ.set j (.k p (.frz od (.dK kvs)) (kvs.map fun q => keyD q.1) vs)) = owns δ := owns_lk δ j _ _ hj rfl
      rw [← e2]; exact ho) q2⟩
    have na : a ≠ p := fun z => by rw [z, h2] at ha; cases ha
    rw [hmin_ne na]
    exact e' a o' (by rw [upd_ne na]; exact ha)
  · exact hr.elim
theorem ds_lk (j : Nat) {st : Stmt} {r : DS} (h : PS X st (upS X.K T W r)) : PS X st (upS X.K T W (sLk j r)) := PSi (ps_lock h) fun Dn σ H h => by
  obtain ⟨F, G, δ, Dd, R, hr, k⟩ := h
  unfold sLk at hr
  split at hr
  · rename_i p ks vs hj
    obtain ⟨h1, h2, o, us, h3, ⟨kvs, rfl, rfl, rfl⟩, h5⟩ := R.hget hj
    refine ⟨p, .dK kvs, h3, trivial, fun od => ?_⟩
    refine ⟨F, _, _, _, R.lock hj h3 rfl h5 _ rfl, hr _, ⟨fun G' H' σ' δ' e' R' q => ?_, fun _ _ _ _ _ _ _ _ _ z => z.elim, fun _ _ _ _ _ _ z => z.elim, fun _ _ _ _ _ _ z => z.elim, fun _ _ _ _ _ _ _ z => z.elim⟩⟩
    obtain ⟨q1, q2⟩ := q
    obtain ⟨_, g2, _⟩ := R'.kget q1
    have R2 := R'.unlock q1 rfl
    refine ⟨R'.ex _ _ g2, k.nx (hmin G' p) _ σ' _ (fun a o' ha => ?_) R2 q2⟩
    have na : a ≠ p := fun z => by rw [z, h2] at ha; cases ha
    rw [hmin_ne na]
    exact e' a o' (by rw [upd_ne na]; exact ha)
  · exact hr.elim
end
end DL


set_option Elab.async false
set_option linter.all false
set_option maxRecDepth 100000
set_option autoImplicit true
namespace DL
open PySem PySem.Spec PyProof.Rows L2
section
variable {K : PySem.W.Frag} {F : Fm} {G H : Hp} {σ : L2.St} {δ : Ev}
theorem Rel.frz3 (R : Rel K T F G H σ δ) : ∃ F1 G1, F1.H0 = H ∧ Rel K T F1 G1 H σ (DL.frz δ) ∧ ∀ G' H' σ' δ', Ex G1 G' → Rel K T F1 G' H' σ' δ' → ∃ G2, Ex G G2 ∧ Rel K T F G2 H' σ δ ∧ ∀ a o, G' a = some o → (∀ us, o ≠ .lst us) → (∀ ks us, ¬ HDic o ks us) → G2 a = some o := by
  let G1 : Hp := fun a => if (a ∈ owns δ ∧ G a = none) then H a else G a
  have gn : ∀ p, p ∈ owns δ ∧ G p = none → G p = none := fun p hp => hp.2
  have e1 : Ex G G1 := fun a o h => by
    show (if (a ∈ owns δ ∧ G a = none) then H a else G a) = some o
    rw [if_neg (fun z => by rw [gn a z] at h; cases h)]
    exact h
  have e2 : Ex G1 H := fun a o h => by
    have h : (if (a ∈ owns δ ∧ G a = none) then H a else G a) = some o := h
    by_cases z : a ∈ owns δ ∧ G a = none
    · rw [if_pos z] at h; exact h
    · rw [if_neg z] at h; exact R.ex a o h
  refine ⟨⟨H, G1, []⟩, G1, rfl, ⟨e2, frz_sl e1 (fun p hp us h => ?_) R.sl, (by rw [frz_own]; exact List.nodup_nil), (fun p hp => by rw [frz_own] at hp; cases hp), fun a o _ h _ => h, fun a h => h, fun a _ _ h => h, ⟨R.tab.1, fun a ps h => ?_⟩⟩, fun G' H' σ' δ' x1 R' => ?_⟩
  · show (if (p ∈ owns δ ∧ G p = none) then H p else G p) = _
    by_cases z : G p = none
    · rw [if_pos ⟨hp, z⟩]; exact h
    · rw [if_neg (fun y => z y.2)]
      cases q : G p with
      | none => exact absurd q z
      | some o' => rw [← R.ex p o' q]; exact h
  · have h : (if (a ∈ owns δ ∧ G a = none) then H a else G a) = some (.tbl ps) := h
    by_cases z : a ∈ owns δ ∧ G a = none
    · rw [if_pos z] at h
      obtain ⟨s, hs, he⟩ := List.mem_filterMap.mp z.1
      obtain ⟨i, hi⟩ := List.getElem?_of_mem hs
      cases s with
      | u => cases he
      | d x => cases he
      | o q xs =>
        cases he
        obtain ⟨_, _, us, h3, _⟩ := R.oget hi
        rw [h] at h3
        cases h3
      | h q ks vs =>
        cases he
        obtain ⟨_, _, o, us, h3, h4, _⟩ := R.hget hi
        rw [h] at h3
        exact h4.nt ps (Option.some.inj h3).symm
      | k q f ks vs =>
        cases he
        obtain ⟨_, _, ok⟩ := R.sl.get hi
        exact absurd (ok.2.1.symm.trans z.2) (fun y => nomatch y)
    · rw [if_neg z] at h
      exact R.tab.2 a ps h
  · refine ⟨fun a => if (a ∈ owns δ ∧ G a = none) then none else G' a, fun a o h => ?_, ?_, fun a => ?_⟩
    · show (if (a ∈ owns δ ∧ G a = none) then none else G' a) = some o
      rw [if_neg (fun z => by rw [gn a z] at h; cases h)]
      exact x1 a o (e1 a o h)
    · refine R.growN (fun a o h => ?_) (fun a o h n => R'.keep a o (fun z => nomatch z) h n) (fun a o h => ?_) (fun a h1 h2 => ?_) ⟨R'.tab.1, fun a ps h => ?_⟩
      · show (if (a ∈ owns δ ∧ G a = none) then none else G' a) = some o
        rw [if_neg (fun z => by rw [gn a z] at h; cases h)]
        exact x1 a o (e1 a o h)
      · have h : (if (a ∈ owns δ ∧ G a = none) then none else G' a) = some o := h
        by_cases z : a ∈ owns δ ∧ G a = none
        · rw [if_pos z] at h; cases h
        · rw [if_neg z] at h; exact R'.ex a o h
      · have h2 : (if (a ∈ owns δ ∧ G a = none) then none else G' a) ≠ none := h2
        by_cases z : a ∈ owns δ ∧ G a = none
        · rw [if_pos z] at h2; exact absurd rfl h2
        · rw [if_neg z] at h2
          have q : (if (a ∈ owns δ ∧ G a = none) then H a else G a) ≠ none := R'.gh a (fun z => nomatch z) h1 h2
          rw [if_neg z] at q
          exact q
      · have h : (if (a ∈ owns δ ∧ G a = none) then none else G' a) = some (.tbl ps) := h
        by_cases z : a ∈ owns δ ∧ G a = none
        · rw [if_pos z] at h; cases h
        · rw [if_neg z] at h; exact R'.tab.2 a ps h
    · intro o ho n1 n2
      show (if (a ∈ owns δ ∧ G a = none) then none else G' a) = some o
      by_cases z : a ∈ owns δ ∧ G a = none
      · exfalso
        have hg : ∀ o', H a = some o' → o' = o := fun o' h' => by
          have := x1 a o' (by show (if (a ∈ owns δ ∧ G a = none) then H a else G a) = some o'; rw [if_pos z]; exact h')
          rw [ho] at this
          exact (Option.some.inj this).symm
        obtain ⟨s, hs, he⟩ := List.mem_filterMap.mp z.1
        obtain ⟨i, hi⟩ := List.getElem?_of_mem hs
        cases s with
        | u => cases he
        | d x => cases he
        | o q xs =>
          cases he
          obtain ⟨_, _, us, h3, _⟩ := R.oget hi
          exact n1 us (hg _ h3).symm
        | h q ks vs =>
          cases he
          obtain ⟨_, _, o', us, h3, h4, _⟩ := R.hget hi
          have e := hg _ h3
          subst e
          exact n2 _ _ h4
        | k q f ks vs =>
          cases he
          obtain ⟨_, _, ok⟩ := R.sl.get hi
          exact absurd (ok.2.1.symm.trans z.2) (fun y => nomatch y)
      · rw [if_neg z]; exact ho
end
/-- flat, or a tuple of flat things -/
def rowT : D → Bool
  | .tup xs => xs.all flatD
  | d => flatD d
theorem sqt_keep {K : PySem.W.Frag} {G G' : Hp} {a : Addr} {us : List V} (k : ∀ a o, G a = some o → (∀ us, o ≠ .lst us) → (∀ ks us, ¬ HDic o ks us) → G' a = some o) (h : SqT K G a us) : SqT K G' a us := by
  rcases h with h | h
  · rcases h with h | ⟨ob, h⟩
    · exact .inl (.inl (k a _ h (fun _ z => nomatch z) fun _ _ ⟨_, z, _⟩ => nomatch z))
    · exact .inl (.inr ⟨ob, k a _ h (fun _ z => nomatch z) fun _ _ ⟨_, z, _⟩ => nomatch z⟩)
  · exact .inr h
theorem row_rp {K : PySem.W.Frag} {G G' : Hp} {d : D} {v : V} (k : ∀ a o, G a = some o → (∀ us, o ≠ .lst us) → (∀ ks us, ¬ HDic o ks us) → G' a = some o) (h : rowT d = true) (p : Rp K G d v) : Rp K G' d v := by
  cases d with
  | tup xs =>
    obtain ⟨a, us, rfl, h1, h2⟩ := p
    exact ⟨a, us, rfl, sqt_keep k h1, flat_rpl h h2⟩
  | _ => exact flat_rp h p
/-- as dPeek, the answer a row of flat things -/
def dPeekR (r : DE) : DE := fun _ δ Q => r (fun _ _ => False) (frz δ) fun d δ' => δ' = frz δ ∧ rowT d = true ∧ Q d δ
theorem dx_peekR {X : Cx} {T : List (Addr × Str)} {W : WX} {e : Expr} {re : DE} (h : PE X e (up X.K T W re)) : PE X e (up X.K T W (dPeekR re)) := PEi h fun σ H Q h => by
  obtain ⟨F, G, δ, Xc, Qd, R, hr, hx, k⟩ := h
  obtain ⟨F1, G1, _, R1, back⟩ := R.frz3
  refine ⟨F1, G1, frz δ, _, _, R1, hr, fun _ _ _ _ _ _ z => z.elim, fun G' H' v d δ' e R' p q => ?_⟩
  obtain ⟨rfl, q1, q2⟩ := q
  obtain ⟨G2, e2, R2, keep⟩ := back G' H' _ _ e R'
  exact k G2 H' v d δ e2 R2 (row_rp keep q1 p) q2
end DL


set_option Elab.async false
set_option linter.all false
set_option maxRecDepth 100000
set_option autoImplicit true
namespace DL
open PySem PySem.Spec PyProof.Rows L2
/-! ### tuple(range(a, b)) -/
def dTupRg (ra rb : DE) : DE := fun Xc δ Q => ra Xc δ fun x δ1 => rb Xc δ1 fun y δ2 => match x, y with
  | .int m, .int n => RgOk m n ∧ Q (.tup (rngD m (n - m).toNat)) δ2
  | _, _ => False
/-- x = dict(y), y a dict that is changed -/
def sHCopy (i j : Nat) : DS := fun Dd δ => match δ[j]? with
  | some (.h _ ks vs) => ∀ p, p ∉ owns δ → Dd.nx (δ.set i (.h p ks vs))
  | _ => False
/-- x = y, y a dict that is changed: y is not looked at any more -/
def sHMove (i j : Nat) : DS := fun Dd δ => match δ[j]? with
  | some (.h p ks vs) => Dd.nx ((δ.set j .u).set i (.h p ks vs))
  | _ => False
section
variable {X : Cx} {T : List (Addr × Str)} {W : WX} {a b : Expr} {ra rb : DE} {p p2 pos pos2 : Pos}
theorem dx_tupRg (hc : X.calm = true) (hl : X.mg "tuple" = none) (hm : X.mg "range" = none) (ha : PE X a (up X.K T W ra)) (hb : PE X b (up X.K T W rb)) (hg : Gl X "tuple" := by rfl) (hg2 : Gl X "range" := by rfl) (na : starEach [a, b] X.env = (false, eval a X.env) :: starEach [b] X.env := by rfl)
    (nb : starEach [b] X.env = (false, eval b X.env) :: starEach [] X.env := by rfl) (hp : (backTo pos2 (starEach [b] X.env)).any (·.1) = false := by rfl)
    (nc : starEach [.Call (.Name "range" p2) [a, b] [] pos2] X.env = (false, eval (.Call (.Name "range" p2) [a, b] [] pos2) X.env) :: starEach [] X.env := by rfl) :
    PE X (.Call (.Name "tuple" p) [.Call (.Name "range" p2) [a, b] [] pos2] [] pos) (up X.K T W (dTupRg ra rb)) := PEi (pe_tupRg hc hg hl (prg_2 hg2 hm ha hb na nb hp) nc) fun σ H Q h => by
  obtain ⟨F, G, δ, Xc, Qd, R, hr, hx, k⟩ := h
  refine ⟨F, G, δ, Xc, _, R, hr, hx, fun G1 H1 v d δ1 e1 R1 p1 q1 => ⟨F, G1, δ1, Xc, _, R1, q1, fun G' H' δ' C e R' q => hx G' H' δ' C (e1.trans e) R' q, fun G2 H2 w y δ2 e2 R2 p2 q2 => ?_⟩⟩
  cases d with
  | int m =>
    cases y with
    | int n =>
      obtain rfl := p1
      obtain rfl := p2
      refine ⟨m, n, rfl, rfl, q2.1, fun q hq => ?_⟩
      exact k _ _ _ (.tup (rngD m (n - m).toNat)) δ2 ((e1.trans e2).trans (Ex.new (R2.ex.back hq))) (R2.alloc hq) ⟨q, _, rfl, .inl (.inl upd_same), rgV_D m n⟩ q2.2
    | _ => exact q2.elim
  | _ => cases y <;> exact q2.elim
theorem ds_hcopy {i j : Nat} {x y : Str} {pos' py pc pd : Pos} (hN : X.N.Nodup) (hi : X.N[i]? = some x) (hx : Loc X.env.scope x) (hm : X.mg "dict" = none) (hNy : X.N[j]? = some y) (hg : Gl X "dict" := by rfl) (hv : Vis X.env.scope y := by first | exact Or.inl rfl | exact Or.inr (Or.inl rfl) | exact Or.inr (Or.inr rfl)) (hdy : (y == ("__debug__" : Str)) = false := by decide)
    (hcd : (y == ("__classdict__" : Str)) = false := by decide) (he : starEach [.Name y py] X.env = (false, eval (.Name y py) X.env) :: starEach [] X.env := by rfl) (hpl : (backTo pc (starEach [] X.env)).any (·.1) = false := by rfl)
    (hs : swapsWith (.Call (.Name "dict" pd) [.Name y py] [] pc) (some (.Name x pos')) pos.line X.env = pure false := by rfl)
    (hf : X.fn x = true ∨ X.env.scope.names.lookup x = some .local := by first | exact .inl rfl | exact .inr rfl | assumption) : PS X (.Assign [.Name x pos'] (.Call (.Name "dict" pd) [.Name y py] [] pc) pos) (upS X.K T W (sHCopy i j)) := PSi (ps_set hN hi hx (pe_callTy call_dictD hg hm (by decide +kernel) (pa_cons (pe_var hNy hv hdy hcd) pa_nil he) (hpl := hpl)) hs hf) fun Dn σ H h => by
  obtain ⟨F, G, δ, Dd, R, hr, k⟩ := h
  unfold sHCopy at hr
  split at hr
  · rename_i p0 ks vs hj
    obtain ⟨h1, h2, o, us, h3, ⟨kvs, rfl, rfl, rfl⟩, h5⟩ := R.hget hj
    refine ⟨_, h1, p0, kvs, rfl, .inl h3, fun p hp => ?_⟩
    obtain ⟨z1, z2⟩ := R.fresh_own (nT_no hp)
    exact k.nx G _ _ _ (Ex.refl G) ((R.temp (o := .dK kvs) hp).seth upd_same (R.ex.back hp) ⟨kvs, rfl, rfl, rfl⟩ h5 z2 (.inr z1)) (hr p z2)
  · exact hr.elim
theorem ds_hmove {i j : Nat} {x y : Str} {pos' py : Pos} (hN : X.N.Nodup) (hi : X.N[i]? = some x) (hx : Loc X.env.scope x) (hNy : X.N[j]? = some y) (hv : Vis X.env.scope y := by first | exact Or.inl rfl | exact Or.inr (Or.inl rfl) | exact Or.inr (Or.inr rfl)) (hdy : (y == ("__debug__" : Str)) = false := by decide)
    (hcd : (y == ("__classdict__" : Str)) = false := by decide) (hs : swapsWith (.Name y py) (some (.Name x pos')) pos.line X.env = pure false := by rfl)
    (hf : X.fn x = true ∨ X.env.scope.names.lookup x = some .local := by first | exact .inl rfl | exact .inr rfl | assumption) : PS X (.Assign [.Name x pos'] (.Name y py) pos) (upS X.K T W (sHMove i j)) := PSi (ps_set hN hi hx (pe_var hNy hv hdy hcd) hs hf) fun Dn σ H h => by
  obtain ⟨F, G, δ, Dd, R, hr, k⟩ := h
  unfold sHMove at hr
  split at hr
  · rename_i p0 ks vs hj
    obtain ⟨h1, h2, o, us, h3, h0, h5⟩ := R.hget hj
    have hjl : j < σ.length := (List.getElem?_eq_some_iff.mp h1).1
    have hs : σ.set j (some (.ref p0)) = σ := by
      rw [← (List.getElem?_eq_some_iff.mp h1).2]
      exact List.set_getElem_self hjl
    have no : p0 ∉ owns (δ.set j .u) := by
      have e2 : (δ.set j (.o p0 [] : Sl))[j]? = some (.o p0 []) := by
        rw [List.getElem?_set_self (List.getElem?_eq_some_iff.mp hj).1]
      have nd : (owns (δ.set j (.o p0 []))).Nodup := by
        rw [← owns_seth δ j p0 ks vs [], owns_hsame δ j p0 ks vs ks vs hj]; exact R.sep
      have := owns_out _ j e2 nd
      rwa [List.set_set] at this
    have R1 : Rel X.K T F G H σ (δ.set j .u) := by
      have := R.setu (i := j) (w := some (.ref p0))
      rw [hs] at this
      exact this
    exact ⟨_, h1, k.nx G _ _ _ (Ex.refl G) (R1.seth h3 h2 h0 h5 no (R.own p0 (hown_mem hj))) hr⟩
  · exact hr.elim
end
end DL


set_option Elab.async false
set_option linter.all false
set_option maxRecDepth 100000
set_option maxHeartbeats 4000000
set_option autoImplicit true
namespace DL
open PySem PySem.Spec PyProof.Rows L2
/-! ### sorted(set(x)), x a list or a tuple of ints -/
section
variable {P : Program} {w : World} {A : Around} {E : Value → Shared → Prop} {s : Shared}
theorem int_at_of {items : Array Value} {ns : List Int} (hit : IntsAre items.toList ns) (i : Nat) (v : Value) (hv : items[i]? = some v) : ∃ k t, ns[i]? = some k ∧ v = .int k t := by
  have hisz : items.size = ns.length := by
    have q := IntsAre.length hit
    rw [Array.length_toList] at q
    exact q
  have hi : i < ns.length := by rw [← hisz]; exact (Array.getElem?_eq_some_iff.mp hv).1
  obtain ⟨t, e⟩ := PyProof.Rows.IntsAre.int_at hit i v (by rw [Array.getElem?_toList]; exact hv)
  refine ⟨ns[i], t, List.getElem?_eq_getElem hi, ?_⟩
  rw [e, List.getD_eq_getElem?_getD, List.getElem?_eq_getElem hi] <;> rfl
set_option maxHeartbeats 6400000 in
/-- set(l), l a list of ints: the steps are those of a tuple of ints (call_set_tupI), with the list's iterator -/
theorem setOfList {l : Addr} {items : Array Value} (ns : List Int) {Q : Value → Shared → Prop} (hh : A.handled = none) (hl : s.heap.IsList l items) (hit : IntsAre items.toList ns) (hb : ns.length + 1 < scanBound)
    (h : ∀ (h' : Heap) (tk c : Nat), SetR w h' s.heap.objs.size (fun j => decide (j ∈ ns)) c → c ≤ ns.length → (∀ b o, s.heap.get? b = some o → h'.get? b = some o) → Q (.ref s.heap.objs.size) { s with heap := h', toks := tk }) :
    wpAny (model P w) A (call (.type "set") [.ref l]) Q E s := by
  have hisz : items.size = ns.length := by
    have q := IntsAre.length hit
    rw [Array.length_toList] at q
    exact q
  have hval := int_at_of hit
  obtain ⟨c, tl, hmro⟩ := F.called_set.mro
  have hmade := F.called_set.made
  have hsub := F.called_set.sub
  refine wpAny_call (codeAny_of_tree ?_)
  show wpAny _ _ (callAny (.type "set") _) _ _ _
  refine wpAny_pure ⟨Code.quiet_builtin _ (by decide +kernel), codeAny_builtin F.entry_type_call ?_⟩
  rw [Around.under_plain (weight_type_call_type "set" [.ref l] []) rfl]
  have h1 := F.called_set.notType
  have h2 := F.called_set.canCreate
  have hct := F.typeCall_set_1 (.ref l)
  repeat (any_goals (first | assumption | wp_step))
  generalize hbase : s.heap.push { cls := .type "set", dict := none, data := .set #[] 0 (.fresh 0 0 (!w.params.followText "set-order")) } = hp0
  refine codeAny_mono (code_set_led1 (.ref l) (E := E) (Q₁ := fun obj s₁ => obj = .ref s.heap.objs.size ∧ s₁ = { s with heap := hp0 }) ⟨rfl, by rw [hbase]⟩) fun r s₁ hr => ?_
  cases r with
  | error e => exact hr
  | ok fl =>
    cases fl with
    | ret obj =>
      obtain ⟨rfl, rfl⟩ := hr
      have hS : hp0.get? s.heap.objs.size = some { cls := .type "set", dict := none, data := .set #[] 0 (.fresh 0 0 (!w.params.followText "set-order")) } := by rw [← hbase]; exact Heap.get?_push_size _ rfl
      have hsz0 : hp0.objs.size = s.heap.objs.size + 1 := by rw [← hbase]; exact Heap.size_push ..
      have hold : ∀ b o, s.heap.get? b = some o → hp0.get? b = some o := fun b o q => by rw [← hbase]; exact Heap.get?_push_of_some _ q
      have hT : Shared.TypeIs { s with heap := hp0 } (.ref s.heap.objs.size) "set" := ⟨_, hS, rfl⟩
      have hli := F.called_set.init.lookup
      have hbi := F.called_set.init.bind (.ref s.heap.objs.size)
      repeat (any_goals (first | assumption | wp_step))
      refine codeAny_mono (codeAny_call_builtin (R := wants (fun r s₂ => r = .none ∧ ∃ h' tk c, s₂ = { s with heap := h', toks := tk } ∧ SetR w h' s.heap.objs.size (fun j => decide (j ∈ ns)) c ∧ c ≤ ns.length ∧
          (∀ b o, s.heap.get? b = some o → h'.get? b = some o)) E) F.called_set.init.plain F.entry_set_init (check_set_init_1 hT ?_)) fun r₂ s₂ hr₂ => ?_
      · obtain ⟨ol, hol, hcl, nl, hdl⟩ := hl
        obtain ⟨ocls, odict, odata, oslots⟩ := ol
        simp only at hcl hdl
        subst hcl; subst hdl
        have hol' := hold _ _ hol
        have hsls := F.sub_list_set
        have hslf := F.sub_list_frozenset
        have hne : (Value.type "list" == Value.type "dict") = false := by decide
        have hl1 : hp0.IsList l items := ⟨_, hol', rfl, nl, rfl⟩
        unfold Builtin.«set.__init__» noKeywords Builtin.Frozenset.updateFrom
        generalize hPI : pyIter = PI
        wp_walk
        subst hPI
        refine wpAny_pyIter_list hl1 ?_
        refine wpAny_bind (wpAny_runValue ?_)
        have hlS : l < s.heap.objs.size := Heap.lt_size hol
        have hh3 : A.in1.in1.in1.handled = none := by simp [hh]
        have hneI : l ≠ hp0.objs.size := by
          rw [hsz0]; exact Nat.ne_of_lt (Nat.lt_succ_of_lt hlS)
        have hSf : s.heap.objs.size ∉ [hp0.objs.size, l] := by
          rw [hsz0]; simp only [List.mem_cons, List.mem_singleton, List.not_mem_nil, or_false, not_or]
          exact ⟨Nat.ne_of_lt (Nat.lt_succ_self _), Nat.ne_of_gt hlS⟩
        refine set_update_ints ((Walks.list hh3 _ l hneI items).toS) s.heap.objs.size
          hSf ns hisz hb hval (items.size - 0) 0 _ (by omega) (Nat.zero_le _)
          ⟨⟨_, Heap.get?_push_size _ rfl, rfl, rfl⟩, (hl1.push _)⟩ ?hS0 ?hR
        case hS0 => exact ⟨0, Nat.le_refl 0, setR_new_at (Heap.get?_push_of_some _ hS)⟩
        case hR =>
          intro s' c' hm hc' hS'
          obtain ⟨h', g2, d', tk', os'⟩ := s'
          have eg : g2 = s.gens := hm.gens
          have ed : d' = s.drawn := hm.drawn
          have eo : os' = s.os := hm.os
          subst eg; subst ed; subst eo
          show wpAny _ _ _ _ _ _
          refine wpAny_pure ?_
          show wpAny _ _ (ret Value.none) _ _ _
          rw [hisz] at hc'
          refine wpAny_pure ⟨rfl, h', tk', c', rfl, hS', hc', fun b o e => ?_⟩
          have hb0 : b < s.heap.objs.size := Heap.lt_size e
          exact hm.heap b o (by rw [hsz0]; simp only [List.mem_cons, List.mem_singleton, List.not_mem_nil, or_false, not_or]; exact ⟨Nat.ne_of_lt hb0, Nat.ne_of_lt (Nat.lt_succ_of_lt hb0)⟩) (Heap.get?_push_of_some _ (hold _ _ e))
      · cases r₂ with
        | error e => exact hr₂
        | ok fl₂ =>
          cases fl₂ with
          | ret r =>
            obtain ⟨rfl, h', tk, c', rfl, hS', hc', hk'⟩ := hr₂
            repeat (any_goals (first | assumption | wp_step))
            exact h _ _ _ hS' hc' hk'
          | _ => exact hr₂.elim
    | _ => exact hr.elim
end
def rSetI (K : PySem.W.Frag) (w : World) : List V → Hp → VK → Prop := fun vs H Q => ∃ (a : Addr) (ns : List Int), vs = [V.ref a] ∧ (SqL K H a (ns.map V.int) ∨ SqT K H a (ns.map V.int)) ∧ ns.length ≤ 4000 ∧
  ∀ (p : Addr) (c : Nat), c ≤ ns.length → H p = none → Q (.ref p) (upd H p (SetO w p (fun j => decide (j ∈ ns)) c))
theorem cr_setI {X : Cx} (hc : X.calm = true) : CallR X (.type "set") (rSetI X.K X.w) := by
  intro pins s σ H vs us Q I r h
  obtain ⟨a, ns, rfl, hs, hl4, q⟩ := h
  rw [Vals.ref1 r]
  have fin : ∀ (h' : Heap) (tk c : Nat), SetR X.w h' s.heap.objs.size (fun j => decide (j ∈ ns)) c → c ≤ ns.length → (∀ b o, s.heap.get? b = some o → h'.get? b = some o) →
      ∃ x H1, Inv X pins σ H1 { s with heap := h', toks := tk } ∧ RelV x (.ref s.heap.objs.size) ∧ Q x H1 := fun h' tk c hS hcl hk =>
    ⟨.ref _, upd H s.heap.objs.size (SetO X.w s.heap.objs.size (fun j => decide (j ∈ ns)) c), I.laid (t' := tk) (fun b u e => hk b u e) (Nat.le_refl _) (setO_new hS), rfl, q _ c hcl (I.hok.fresh (Nat.le_refl _))⟩
  rcases hs with hs | hs
  · obtain ⟨its, rv, pl, hz⟩ := I.list hs
    exact setOfList ns (I.ok.hd hc) pl.isList (by simpa using rv.ints) (by unfold scanBound; omega) fin
  · obtain ⟨its, rv, hT, hz⟩ := I.tuple hs
    exact call_set_tupI ns (I.ok.hd hc) hT (by simpa using rv.ints) (by unfold scanBound; omega) fin
section
open SrtO
variable {P : Program} {w : World} {A : Around} {E : Value → Shared → Prop} {s : Shared} {a : Addr}
theorem sorted_setAny {S : Int → Bool} {n : Nat} {Q : Value → Shared → Prop} (R : SetR w s.heap a S n) (hh : A.handled = none)
    (hQ : ∀ s' p (out : Array Value) (c : Nat) (ns : List Int), (∀ b o, s.heap.get? b = some o → s'.heap.get? b = some o) → s'.gens = s.gens → s'.os = s.os → s.heap.objs.size ≤ p →
      s'.heap.get? p = some (seqObj "list" out c) → IntsAre out.toList ns → ns.Pairwise (· < ·) → (∀ k, k ∈ ns ↔ S k = true) → ns.length = n → Q (.ref p) s') :
    wpAny (model P w) A (call (.builtin "sorted") [.ref a]) Q E s := by
  obtain ⟨o, es, ep, t, ho, hex, hd, g, nd, hm, hb, hf, hn, hr, hl⟩ := R
  refine Calls.call_function_entry kind_sorted plain_sorted entry_sorted (args_sorted1 _) ?_
  unfold Builtin.«sorted»
  refine wpAny_bind (m := checkCount "sorted" 1 1 _) (wpAny_pure ?_)
  refine wpAny_bind (collect_set (A := A.in1) hh ⟨o, ho, hex.1, hd⟩ hf hb hr hl fun s1 vs k1 hz g1 o1 pm => ?_)
  have hvl : vs.length = n := by rw [pm.length_eq, List.length_map, Array.length_toList]; exact hn
  have hI : IntsAre vs (vs.map Builtin.Re.reRawOf) := L2.ints_of vs fun v hv => by
    obtain ⟨e, he, q⟩ := List.mem_map.mp (pm.mem_iff.mp hv)
    obtain ⟨k, tk, h1, _⟩ := g e he
    exact ⟨k, tk, by rw [← q]; exact h1⟩
  have pk : (vs.map Builtin.Re.reRawOf).Perm (es.toList.map keyOf) := by
    have q := pm.map Builtin.Re.reRawOf
    rw [List.map_map] at q
    exact q
  have hzs : vs.length ≤ sizeLine := by
    unfold scanBound at hb
    rw [hvl, sizeLine_eq]
    omega
  refine wpAny_bind (wpAny_newList ?_ hzs)
  have hoL : (s1.heap.push (seqObj "list" vs.toArray 0)).get? s1.heap.objs.size = some (seqObj "list" vs.toArray 0) := Heap.get?_push_size _ rfl
  refine wpAny_bind (wpAny_holding (wpAny_call_entry slot_list_sort ⟨_, hoL, rfl⟩ entry_list_sort (list_sort_ord SrtO.swo_int hoL hzs (fun h2 => SrtO.ints_sortable hI h2) fun out hs hb => ⟨_, rfl, ?_⟩) (args_list_sort _)))
  obtain ⟨i1, i2, i3⟩ := SrtO.ints_out hI hs hb
  obtain ⟨c, hc⟩ := sortedHeap_at (vs := vs) (out := out.toArray) hoL
  have pn := i2.trans pk
  refine wpAny_pure ⟨_, rfl, hQ _ s1.heap.objs.size out.toArray c _ (fun b u e => ?_) g1 o1 hz hc i1 (lt_of_le_nodup _ i3 (pn.nodup_iff.mpr nd)) (fun k => by rw [pn.mem_iff, ← hm k]) ?_⟩
  · have q := k1 b u e
    have hlt := Heap.lt_size q
    show (sortedHeap (s1.heap.push (seqObj "list" vs.toArray 0)) s1.heap.objs.size vs out.toArray).get? b = some u
    rw [sortedHeap_old (Nat.ne_of_lt hlt) (by rw [size_push']; exact Nat.lt_succ_of_lt hlt)]
    exact Heap.get?_push_of_some _ q
  · rw [pn.length_eq, List.length_map, Array.length_toList]; exact hn
end
def rSortedSA (w : World) : List V → Hp → VK → Prop := fun vs H Q => ∃ (a : Addr) (S : Int → Bool) (n : Nat), vs = [V.ref a] ∧ H a = some (SetO w a S n) ∧ n ≤ 4000 ∧
  ∀ (ns : List Int) (p : Addr), ns.Pairwise (· < ·) → (∀ k : Int, k ∈ ns ↔ S k = true) → ns.length = n → H p = none → Q (.ref p) (upd H p (.lst (ns.map V.int)))
theorem cr_sortedSA {X : Cx} (hc : X.calm = true) : CallR X (.builtin "sorted") (rSortedSA X.w) := by
  intro pins s σ H vs us Q I r h
  obtain ⟨a, S, n, rfl, ha, h4, q⟩ := h
  have R := setO_get I ha
  rw [Vals.ref1 r]
  refine sorted_setAny R (I.ok.hd hc) fun s' p out c ns k g o hp hg hi hs hm hl => ?_
  have hlen : (ns.map V.int).length ≤ sizeLine := by rw [List.length_map, hl, sizeLine_eq]; omega
  have hn : H p = none := I.hok.fresh hp
  have J : Inv X pins σ (upd H p (.lst (ns.map V.int))) { s with heap := s'.heap, gens := s'.gens, drawn := s'.drawn, toks := s'.toks } :=
    I.call (ch := []) (Un.laid k hp hn) (I.hok.laid k hp ⟨hlen, out.toList, c, vals_of_ints hi, hg⟩) (by rw [g]; exact I.bare) (fun _ z => nomatch z)
  have e : s' = { s with heap := s'.heap, gens := s'.gens, drawn := s'.drawn, toks := s'.toks } := by
    cases s'
    cases s
    cases o
    rfl
  rw [e]
  exact ⟨.ref p, _, J, rfl, q ns p hs hm hl hn⟩
def gSortSet : List D → (List D → Prop) → Prop
  | [.lst xs], Q => ∃ ns : List Int, xs = ns.map D.int ∧ ns.length ≤ 4000 ∧ ∀ ns' : List Int, ns'.Pairwise (· < ·) → (∀ k, k ∈ ns' ↔ k ∈ ns) → Q (ns'.map D.int)
  | [.tup xs], Q => ∃ ns : List Int, xs = ns.map D.int ∧ ns.length ≤ 4000 ∧ ∀ ns' : List Int, ns'.Pairwise (· < ·) → (∀ k, k ∈ ns' ↔ k ∈ ns) → Q (ns'.map D.int)
  | _, _ => False
section
variable {X : Cx} {T : List (Addr × Str)} {W : WX} {e : Expr} {es : List Expr} {s : DF}
theorem up_ss : ∀ σ H Q, upF X.K T W (fCB gSortSet s) σ H Q → tCB (rSortedSA X.w) (tCons (tCB (rSetI X.K X.w) (upA X.K T W s)) tNil) σ H Q := fun σ H Q h => by
  obtain ⟨F, G, δ, Xc, Qd, R, hr, hx, k⟩ := h
  refine ⟨F, G, δ, Xc, _, R, hr, hx, fun G1 H1 vs ds δ1 e1 R1 p1 h1 => ?_⟩
  have fin : ∀ (a : Addr) (ns : List Int), (SqL X.K H1 a (ns.map V.int) ∨ SqT X.K H1 a (ns.map V.int)) → ns.length ≤ 4000 → (∀ ns' : List Int, ns'.Pairwise (· < ·) → (∀ k, k ∈ ns' ↔ k ∈ ns) → Qd (ns'.map D.int) δ1) →
      rSetI X.K X.w [.ref a] H1 fun x H2 => rSortedSA X.w [x] H2 Q := fun a ns hs hl q => by
    refine ⟨a, ns, rfl, hs, hl, fun p c hc hp => ⟨p, _, c, rfl, upd_same, by omega, fun ns' p' s1 s2 _ hp' => ?_⟩⟩
    have e2 : Ex G1 (upd G1 p (SetO X.w p (fun j => decide (j ∈ ns)) c)) := Ex.new (R1.ex.back hp)
    exact newF (us := ns'.map V.int) (ds := ns'.map D.int) (e1.trans e2) (R1.alloc hp (fun ps z => by unfold SetO at z; cases z)) (RpL.ofInts ns') (q ns' s1 fun k => by rw [s2]; exact decide_eq_true_iff) k p' hp'
  unfold gSortSet at h1
  split at h1
  · obtain ⟨ns, rfl, hl, q⟩ := h1
    obtain ⟨v, rfl, a, us, rfl, z1, z2⟩ := one_of p1
    obtain rfl := z2.ints
    exact fin a ns (.inl (ex_lt R1.ex z1)) hl q
  · obtain ⟨ns, rfl, hl, q⟩ := h1
    obtain ⟨v, rfl, a, us, rfl, z1, z2⟩ := one_of p1
    obtain rfl := z2.ints
    exact fin a ns (.inr (ex_t R1.ex z1)) hl q
  · exact h1.elim
theorem df_sortSet {p1 p2 pos1 pos2 : Pos} (hc : X.calm = true) (hm : X.mg "sorted" = none) (hm2 : X.mg "set" = none) (ha : PA X (e :: es) (upA X.K T W s)) (hg : Gl X "sorted" := by rfl) (hg2 : Gl X "set" := by rfl)
    (he : starEach (e :: es) X.env = (false, eval e X.env) :: starEach es X.env := by rfl) (hpl : (backTo pos2 (starEach es X.env)).any (·.1) = false := by rfl)
    (he1 : starEach [.Call (.Name "set" p2) (e :: es) [] pos2] X.env = (false, eval (.Call (.Name "set" p2) (e :: es) [] pos2) X.env) :: starEach [] X.env := by rfl) (hpl1 : (backTo pos1 (starEach [] X.env)).any (·.1) = false := by rfl) :
    PE X (.Call (.Name "sorted" p1) [.Call (.Name "set" p2) (e :: es) [] pos2] [] pos1) (upF X.K T W (fCB gSortSet s)) :=
  PEi (pe_callB (cr_sortedSA hc) hg hm b_sorted (pa_cons (pe_callTy (cr_setI hc) hg2 hm2 b_set ha (by decide) (by decide) he hpl) pa_nil he1) (by decide) (by decide) he1 hpl1) up_ss
end
end DL


set_option Elab.async false
set_option linter.all false
set_option maxRecDepth 100000
set_option maxHeartbeats 4000000
set_option autoImplicit true
namespace DL
open PySem PySem.Spec PyProof.Rows L2 HT
/-! ### t[a::2] of a tuple -/
def every2 {α : Type} : List α → List α
  | [] => []
  | [x] => [x]
  | x :: _ :: r => x :: every2 r
theorem every2_pick {α : Type} : ∀ ys : List α, (List.range ((ys.length + 1) / 2)).filterMap (fun m => ys[2 * m]?) = every2 ys
  | [] => by simp [every2]
  | [x] => by simp [every2, List.range_succ]
  | x :: y :: r => by
    have e : ((x :: y :: r).length + 1) / 2 = (r.length + 1) / 2 + 1 := by
      simp only [List.length_cons]
      omega
    rw [e, List.range_succ_eq_map, List.filterMap_cons]
    show x :: _ = x :: every2 r
    rw [← every2_pick r, List.filterMap_map]
    congr 1
theorem RpL.every2 {K : PySem.W.Frag} {G : Hp} : ∀ {ds : List D} {vs : List V}, RpL K G ds vs → RpL K G (every2 ds) (every2 vs)
  | [], _, h => by rw [show _ = _ from h]; exact rfl
  | [_], _, h => by
    obtain ⟨u, us, rfl, h1, h2⟩ := h
    rw [show us = [] from h2]
    exact ⟨u, [], rfl, h1, rfl⟩
  | _ :: _ :: r, _, h => by
    obtain ⟨u, us, rfl, h1, u2, us2, rfl, h2, h3⟩ := h
    exact ⟨u, _, rfl, h1, RpL.every2 h3⟩
def cutAt (n : Nat) (lo : Option Int) : Nat := Nat.min (lo.getD 0).toNat n
theorem adj_two (n : Nat) (lo : Option Int) (h : 0 ≤ lo.getD 0) : Builtin.Slice.sliceAdjust lo none 2 (n : Int) = (((cutAt n lo : Nat) : Int), (n : Int)) := by
  unfold Builtin.Slice.sliceAdjust cutAt
  cases lo with
  | none => simp
  | some v =>
    have hv : 0 ≤ v := h
    simp only [Option.getD_some]
    rw [if_neg (show ¬ v < 0 by omega), if_neg (show ¬ ((2 : Int) < 0) by decide)]
    congr 1
    show min v (n : Int) = ((min v.toNat n : Nat) : Int)
    omega
theorem pl_two (a n : Nat) (h : a ≤ n) : Builtin.Slice.slicePlaces (a : Int) (n : Int) 2 = (n - a + 1) / 2 := by
  unfold Builtin.Slice.slicePlaces
  rw [if_pos (by decide)]
  by_cases e : (a : Int) < n
  · rw [if_pos e]
    omega
  · rw [if_neg e]
    omega
theorem pk_two (xs : Array Value) (a : Nat) : ((List.range ((xs.size - a + 1) / 2)).filterMap fun (m : Nat) => xs[((a : Int) + (m : Int) * 2).toNat]?).toArray = (every2 (xs.toList.drop a)).toArray := by
  rw [← every2_pick, List.length_drop, Array.length_toList]
  congr 2
  funext m
  rw [List.getElem?_drop, Array.getElem?_toList]
  congr 1
  omega
section
variable {prog : Program} {w : World} {A : Around} {E : Value → Shared → Prop} {s : Shared}
theorem app_two {c : Addr} {v1 v2 v3 : Value} {n : Nat} {lo : Option Int} {R : Int × Int × Nat → Shared → Prop} (h0 : 0 ≤ lo.getD 0) (k : s.heap.IsSliceOf c v1 v2 v3) (a1 : IsPart v1 lo) (a2 : IsPart v2 none) (a3 : IsPart v3 (some 2))
    (q : R (((cutAt n lo : Nat) : Int), 2, (n - cutAt n lo + 1) / 2) s) : wpAny (model prog w) A (Builtin.Slice.sliceApplied (.ref c) (pure (n : Int))) R E s := by
  obtain ⟨ob, h1, h2, h3⟩ := id k
  unfold Builtin.Slice.sliceApplied Builtin.Slice.sliceFields
  refine wpAny_bind (wpAny_bind (wpAny_field h1 h3 (x := v1) rfl (wpAny_bind (wpAny_field h1 h3 (x := v2) rfl (wpAny_bind (wpAny_field h1 h3 (x := v3) rfl (wpAny_pure ?_)))))))
  refine wpAny_bind (slicePart_ a3 ?_)
  show wpAny _ _ (if ((2 : Int) == 0) = true then _ else _) _ _ s
  rw [if_neg (by decide)]
  refine wpAny_bind (slicePart_ a1 (wpAny_bind (slicePart_ a2 (wpAny_bind (wpAny_pure ?_)))))
  show wpAny _ _ (match Builtin.Slice.sliceAdjust lo none 2 (n : Int) with | (x, y) => pure (x, (2 : Int), Builtin.Slice.slicePlaces x y 2)) _ _ s
  rw [adj_two n lo h0]
  show wpAny _ _ (pure (((cutAt n lo : Nat) : Int), (2 : Int), Builtin.Slice.slicePlaces ((cutAt n lo : Nat) : Int) (n : Int) 2)) _ _ s
  rw [pl_two _ _ (by unfold cutAt; exact Nat.min_le_right _ _)]
  exact wpAny_pure q
theorem get_two {t c : Addr} {xs : Array Value} {v1 v2 v3 : Value} {lo : Option Int} {R : Value → Shared → Prop} (h0 : 0 ≤ lo.getD 0) (ht : IsTup s.heap t xs) (k : s.heap.IsSliceOf c v1 v2 v3) (a1 : IsPart v1 lo) (a2 : IsPart v2 none) (a3 : IsPart v3 (some 2))
    (zz : sizeOk (.seq (every2 (xs.toList.drop (cutAt xs.size lo))).toArray))
    (q : R (.ref s.heap.objs.size) { s with heap := s.heap.push { cls := .type "tuple", data := .seq (every2 (xs.toList.drop (cutAt xs.size lo))).toArray } }) : wpAny (model prog w) A (getItem (.ref t) (.ref c)) R E s := by
  obtain ⟨ob, h1, h2, h3⟩ := id k
  have ty : s.TypeIs (.ref c) "slice" := ⟨ob, h1, h2⟩
  unfold getItem
  try with_reducible refine wpAny_holding ?_
  try refine wpAny_bind (wpAny_pure ?_)
  refine wpAny_bind (wpAny_sequenceKey (show s.TypeIs (.ref t) "tuple" from ht.typeIs) (by decide) ?_)
  refine wpAny_bind (wpAny_callSpecial?_slot (name := Str.ofString "__getitem__") (show s.TypeIs (.ref t) "tuple" from ht.typeIs) PyProof.Rows.slot_tuple_getitem (wpAny_call_entry PyProof.Rows.slot_tuple_getitem (show s.TypeIs (.ref t) "tuple" from ht.typeIs) entry_tuple_getitem ?_ (args_tuple_getitem _ _)))
  show wpAny _ _ (Builtin.Tuple.tupleItemsOf (.ref t) >>= fun its => _) _ _ s
  refine wpAny_bind (tupleItemsOf_ ht (wpAny_bind (wpAny_typeOf ty ?_)))
  rw [if_pos (by decide)]
  refine wpAny_bind (app_two h0 k a1 a2 a3 ?_)
  show wpAny _ _ (if (((cutAt xs.size lo : Nat) : Int) == 0 && (2 : Int) == 1 && (xs.size - cutAt xs.size lo + 1) / 2 == xs.size) = true then _ else _) _ _ s
  rw [if_neg (by simp), pk_two]
  first
    | exact wpAny_bind (m := Builtin.Tuple.tupleExact _) (wpAny_newObj_type (wpAny_pure ⟨_, rfl, wpAny_pure q⟩) zz)
    | exact wpAny_bind (m := Builtin.Tuple.tupleExact _) (wpAny_newObj_type (wpAny_bind (wpAny_pure (wpAny_pure ⟨_, rfl, wpAny_pure q⟩))) zz)
    | exact wpAny_bind (wpAny_bind (m := Builtin.Tuple.tupleExact _) (wpAny_newObj_type (wpAny_pure (wpAny_pure ⟨_, rfl, wpAny_pure q⟩)) zz))
    | exact wpAny_bind (wpAny_bind (m := Builtin.Tuple.tupleExact _) (wpAny_newObj_type (wpAny_pure ⟨_, rfl, wpAny_pure q⟩) zz))
end
theorem every2_len {α : Type} : ∀ xs : List α, (every2 xs).length = (xs.length + 1) / 2
  | [] => by simp [every2]
  | [x] => by simp [every2]
  | x :: y :: r => by
    have := every2_len r
    simp only [every2, List.length_cons]
    omega
theorem Vals.every2 : ∀ {xs : List V} {us : List Value}, Vals xs us → Vals (DL.every2 xs) (DL.every2 us)
  | _, _, .nil => .nil
  | _, _, .cons h .nil => .cons h .nil
  | _, _, .cons h (.cons _ t) => .cons h (Vals.every2 t)
theorem Vals.drop' : ∀ (i : Nat) {xs : List V} {us : List Value}, Vals xs us → Vals (xs.drop i) (us.drop i)
  | 0, _, _, h => h
  | _ + 1, _, _, .nil => .nil
  | i + 1, _, _, .cons _ t => Vals.drop' i t
def tStep2 (K : PySem.W.Frag) (te : TE) (tl : TO) : TE := fun σ H Q => te σ H fun x H1 => tl σ H1 fun lo H2 => 0 ≤ lo.getD 0 ∧ ∃ a xs, x = .ref a ∧ SqT K H2 a xs ∧ ∀ p, H2 p = none → Q (.ref p) (upd H2 p (.tup (every2 (xs.drop (cutAt xs.length lo)))))
section
variable {X : Cx} {T : List (Addr × Str)} {W : WX}
theorem pe_step2 {e : Expr} {te : TE} {lo : Option Expr} {tl : TO} {k : Nat} {p1 p3 pos : Pos} (he : PE X e te) (hl : PO X lo tl) : PE X (.Subscript e (.Slice lo none (some (.Constant (.int 2) k p1)) p3) pos) (tStep2 X.K te tl) := by
  refine ⟨fun pins s σ H Q I h => Subscript_ (thn (he.run pins s σ H _ I h) fun v s1 ⟨x, H1, I1, r1, q1⟩ => ?_)⟩
  have st : PO X (some (.Constant (.int 2) k p1)) (tPart (tC (.int 2))) := po_some pe_int
  refine wpAny_Slice (thn (hl.run pins s1 σ H1 _ I1 q1) fun vl s2 ⟨lo', H2, I2, pl, h0, q⟩ => ?_)
  obtain ⟨a, xs, rfl, hx, q⟩ := q
  cases r1
  refine thn (po_none.run pins s2 σ _ (fun o H3 => o = none ∧ H3 = H2) I2 ⟨rfl, rfl⟩) fun vu s3 ⟨_, _, I3, pu, eu, e3⟩ => ?_
  cases eu; cases e3
  refine thn (st.run pins s3 σ _ (fun o H4 => o = some 2 ∧ H4 = H2) I3 ⟨2, rfl, rfl, rfl⟩) fun vs s4 ⟨_, _, I4, ps, eo, e4⟩ => ?_
  cases eo; cases e4
  have I5 : Inv X pins σ H2 { s4 with heap := s4.heap.push { cls := .type "slice", data := .fields #[vl, vu, vs] } } := I4.kept (t' := s4.toks) fun b ob z => Heap.get?_push_of_some _ z
  obtain ⟨its, r, ht, hz⟩ := I5.tuple hx
  have hlen := r.length
  show wpAny (model X.prog X.w) X.A (subscriptTail e (.Slice lo none (some (.Constant (.int 2) k p1)) p3) (.ref a) (.ref s4.heap.objs.size)) (EP X pins σ Q) X.xe _
  refine tail_any (ops := [.ref a, .ref s4.heap.objs.size]) ht.typeIs (PyProof.Rows.slot_tuple_getitem.lookup) ?_ (by with_unfolding_all rfl)
  have ez : its.toArray.size = xs.length := by rw [List.size_toArray, hlen]
  have zl : (every2 (xs.drop (cutAt xs.length lo'))).length ≤ sizeLine := by
    rw [every2_len, List.length_drop]
    omega
  have rr : Vals (every2 (xs.drop (cutAt xs.length lo'))) (every2 (its.drop (cutAt xs.length lo'))) := Vals.every2 (Vals.drop' _ r)
  refine get_two h0 ht (Heap.IsSliceOf.new _ vl vu vs) pl pu ps ?_ ?_
  · rw [ez]
    show (every2 (its.drop (cutAt xs.length lo'))).toArray.size ≤ sizeLine
    rw [List.size_toArray, ← rr.length]
    exact zl
  rw [ez]
  refine ⟨.ref _, _, I5.laid (t' := s4.toks) (o := .tup (every2 (xs.drop (cutAt xs.length lo')))) (fun b ob z => Heap.get?_push_of_some _ z) (Nat.le_refl _) ?_, rfl, q _ (I5.hok.fresh (Nat.le_refl _))⟩
  exact ⟨zl, every2 (its.drop (cutAt xs.length lo')), rr, IsTup.new _ _⟩
def dStep2 (re : DE) (l : DO) : DE := fun Xc δ Q => re Xc δ fun x δ1 => l Xc δ1 fun lo δ2 => match x with
  | .tup xs => 0 ≤ lo.getD 0 ∧ Q (.tup (every2 (xs.drop (lo.getD 0).toNat))) δ2
  | _ => False
theorem drop_cutAt {α : Type} (xs : List α) (lo : Option Int) : xs.drop (cutAt xs.length lo) = xs.drop (lo.getD 0).toNat := by
  unfold cutAt
  by_cases h : (lo.getD 0).toNat ≤ xs.length
  · rw [show Nat.min _ _ = _ from Nat.min_eq_left h]
  · rw [show Nat.min _ _ = _ from Nat.min_eq_right (by omega), List.drop_length, List.drop_eq_nil_of_le (by omega)]
theorem dx_step2 {e : Expr} {re : DE} {lo : Option Expr} {l : DO} {k : Nat} {p1 p3 pos : Pos} (he : PE X e (up X.K T W re)) (hl : PO X lo (upO X.K T W l)) : PE X (.Subscript e (.Slice lo none (some (.Constant (.int 2) k p1)) p3) pos) (up X.K T W (dStep2 re l)) := PEi (pe_step2 he hl) fun σ H Q h => by
  obtain ⟨F, G, δ, Xc, Qd, R, hr, hx, kk⟩ := h
  refine ⟨F, G, δ, Xc, _, R, hr, hx, fun G1 H1 v x δ1 e1 R1 p1 q1 => ?_⟩
  refine ⟨F, G1, δ1, Xc, _, R1, q1, hx.mono e1, fun G2 H2 lo' δ2 e2 R2 q2 => ?_⟩
  cases x with
  | tup xs =>
    obtain ⟨h0, q⟩ := q2
    obtain ⟨b, us, rfl, z1, z2⟩ := Rp.mono e2 _ _ p1
    refine ⟨h0, b, us, rfl, ex_t R2.ex z1, fun p hp => ?_⟩
    rw [drop_cutAt]
    have e3 : Ex G2 (upd G2 p (.tup (every2 (us.drop (lo'.getD 0).toNat)))) := Ex.new (R2.ex.back hp)
    exact kk _ _ (.ref p) (.tup (every2 (xs.drop (lo'.getD 0).toNat))) δ2 ((e1.trans e2).trans e3) (R2.alloc hp) ⟨p, _, rfl, .inl (.inl upd_same), RpL.mono e3 _ _ (RpL.every2 (z2.drop _))⟩ q
  | _ => exact q2.elim
end
end DL


set_option Elab.async false
set_option linter.all false
set_option maxRecDepth 100000
set_option maxHeartbeats 4000000
set_option autoImplicit true
namespace DL
open PySem PySem.Spec PyProof.Rows L2
/-! ### sorted(x), x a list or a tuple of tuples of ints -/
section
variable {prog : Program} {w : World} {A : Around} {E : Value → Shared → Prop} {s : Shared} {β : Type} {vs : List Value} {bs : List β} {enc : β → PyData} {R : Value → β → Prop}
theorem sorted_dataT {l : Addr} {Q : Value → Shared → Prop} (hl : s.heap.IsTuple l vs.toArray) (e : PySem.W.EachIs R vs bs) (er : PySem.W.EachIs (fun v b => ∃ as, Reads s.heap v (enc b) as) vs bs) (hal : PySem.W.AllAlike (bs.map enc)) (hk : PySem.W.Sortable (bs.map enc)) (hL : bs.length ≤ sizeLine)
    (hu : ∀ b, b ∈ bs → A.units + 2 + (enc b).depth < cLine) (h : ∀ out, out.length = bs.length → PySem.W.EachIs R out (bs.mergeSort (PySem.W.dataLe false enc)) → Q (.ref (s.heap.objs.size + 1)) { s with heap := sortedAll s.heap vs (List.toArray out) }) :
    wpAny (model prog w) A (call (.builtin "sorted") [.ref l]) Q E s := by
  have er' : PySem.W.EachIs (fun v b => ∃ as, Reads (PySem.W.sortingHeap (PySem.W.copyHeap s.heap vs) (s.heap.objs.size + 1) vs) v (enc b) as) vs bs := er.mono fun _ _ ⟨as, r⟩ => ⟨as, PyProof.Rows.Reads.keeps (fun _ _ => PySem.W.sorting_copy_old) r⟩
  have S := PySem.W.SortsAt.data (prog := prog) (w := w) (A := A.in1.in1) (s := { s with heap := PySem.W.sortingHeap (PySem.W.copyHeap s.heap vs) (s.heap.objs.size + 1) vs }) (PySem.W.each_map (R := fun v d => ∃ as, Reads (PySem.W.sortingHeap (PySem.W.copyHeap s.heap vs) (s.heap.objs.size + 1) vs) v d as) enc er') hal hk (PySem.W.bound_map hu)
  have hz : vs.length ≤ sizeLine := by rw [e.length]; exact hL
  refine Calls.call_function_entry kind_sorted plain_sorted entry_sorted (args_sorted1 _) ?_
  unfold Builtin.«sorted»
  refine wpAny_bind (m := checkCount "sorted" 1 1 _) (wpAny_pure ?_)
  refine wpAny_bind (collect_tup hl ?_ hz)
  refine wpAny_bind (wpAny_newList ?_ hz)
  have hsz : ((s.heap.push (seqObj "list" #[] 0)).update s.heap.objs.size (Obj.mapSeq (· ++ vs.toArray))).objs.size = s.heap.objs.size + 1 := by
    rw [Heap.size_update, size_push']
  show wpAny _ _ _ _ _ { s with heap := PySem.W.copyHeap s.heap vs }
  rw [hsz]
  refine wpAny_bind (wpAny_holding (wpAny_call_entry slot_list_sort ⟨_, PySem.W.copyHeap_at s.heap vs, rfl⟩ entry_list_sort ?body (args_list_sort _)))
  case body =>
    refine PySem.W.list_sort_vals (s := { s with heap := PySem.W.copyHeap s.heap vs }) (PySem.W.copyHeap_at s.heap vs) S hz ⟨_, rfl, wpAny_pure ⟨_, rfl, ?_⟩⟩
    exact h _ (by rw [PySem.W.sortVals_length false rfl]; exact e.length) (PySem.W.sortVals_data false e er' hal)
end
def rSortR (K : PySem.W.Frag) : List V → Hp → VK → Prop := fun vs H Q => ∃ (a : Addr) (bs : List (V × List Int)), vs = [V.ref a] ∧ (SqL K H a (bs.map (·.1)) ∨ SqT K H a (bs.map (·.1))) ∧ DpAll K H (bs.map (·.1)) (bs.map fun b => rowP b.2) ∧ (∀ b ∈ bs, b.2 ≠ []) ∧
  ∀ (bs' : List (V × List Int)) (p : Addr), bs'.Perm bs → bs'.Pairwise (fun b c => b.2 ≤ c.2) → H p = none → Q (.ref p) (upd H p (.lst (bs'.map (·.1))))
theorem each_of_vals : ∀ {bs : List (V × List Int)} {its : List Value}, Vals (bs.map (·.1)) its → PySem.W.EachIs (fun v (b : V × List Int) => RelV b.1 v) its bs
  | [], _, .nil => .nil
  | b :: bs, _, .cons h t => .cons h (each_of_vals t)
theorem vals_of_each : ∀ {bs : List (V × List Int)} {its : List Value}, PySem.W.EachIs (fun v (b : V × List Int) => RelV b.1 v) its bs → Vals (bs.map (·.1)) its
  | _, _, .nil => .nil
  | _, _, .cons h t => .cons h (vals_of_each t)
theorem dataLe_rowP : PySem.W.dataLe false (fun b : V × List Int => rowP b.2) = fun b c => decide (b.2 ≤ c.2) := by
  funext b c
  rw [PySem.W.dataLe_eq]
  show (!PySem.W.dataLt (rowP c.2) (rowP b.2)) = _
  rw [dataLt_rows]
  by_cases h : c.2 < b.2
  · rw [decide_eq_true h, decide_eq_false (List.not_le.mpr h)]; rfl
  · rw [decide_eq_false h, decide_eq_true (List.not_lt.mp h)]; rfl
theorem cr_sortR {X : Cx} (hu : X.A.units + 65 < cLine) : CallR X (.builtin "sorted") (rSortR X.K) := by
  intro pins s σ H vs us Q I r h
  obtain ⟨a, bs, rfl, hs, hd, hne, q⟩ := h
  rw [Vals.ref1 r]
  have hk : PySem.W.Sortable (bs.map fun b => rowP b.2) := .inl fun d hd => by
    obtain ⟨b, hb, rfl⟩ := List.mem_map.mp hd
    obtain ⟨x, y, e⟩ := List.exists_cons_of_ne_nil (hne b hb)
    exact ⟨.int x, y.map .int, by unfold rowP; rw [e]; rfl⟩
  have hal : PySem.W.AllAlike (bs.map fun b => rowP b.2) := by
    have := (alike_rows (bs.map (·.2))).1
    intro x hx y hy
    obtain ⟨b, hb, rfl⟩ := List.mem_map.mp hx
    obtain ⟨c, hc, rfl⟩ := List.mem_map.mp hy
    exact this _ (List.mem_map.mpr ⟨_, List.mem_map.mpr ⟨b, hb, rfl⟩, rfl⟩) _ (List.mem_map.mpr ⟨_, List.mem_map.mpr ⟨c, hc, rfl⟩, rfl⟩)
  have hdep : ∀ b ∈ bs, X.A.units + 2 + (rowP b.2).depth < cLine := fun b _ => by
    have := depth_ints b.2
    unfold rowP
    rw [PyData.depth]
    omega
  have fin : ∀ (its out : List Value), (bs.map (·.1)).length = its.length → (bs.map (·.1)).length ≤ sizeLine → out.length = bs.length → PySem.W.EachIs (fun v (b : V × List Int) => RelV b.1 v) out (bs.mergeSort (PySem.W.dataLe false fun b => rowP b.2)) →
      ∃ x H1, Inv X pins σ H1 { s with heap := sortedAll s.heap its (List.toArray out) } ∧ RelV x (.ref (s.heap.objs.size + 1)) ∧ Q x H1 := fun its out hl1 hl2 hl3 he => by
    rw [dataLe_rowP] at he
    have hp := List.mergeSort_perm bs (fun b c => decide (b.2 ≤ c.2))
    have hsrt := List.pairwise_mergeSort (le := fun b c : V × List Int => decide (b.2 ≤ c.2)) (fun x y z h1 h2 => by
      simp only [decide_eq_true_eq] at *
      exact List.le_trans h1 h2) (fun x y => by
      simp only [Bool.or_eq_true, decide_eq_true_eq]
      exact List.le_total _ _) bs
    obtain ⟨ep, he'⟩ := PyProof.Rows.sortedAll_at s.heap its out.toArray
    have hlen : ((bs.mergeSort fun b c => decide (b.2 ≤ c.2)).map (·.1)).length ≤ sizeLine := by
      rw [List.length_map, hp.length_eq]
      rw [List.length_map] at hl2
      exact hl2
    exact ⟨.ref _, upd H (s.heap.objs.size + 1) (.lst ((bs.mergeSort fun b c => decide (b.2 ≤ c.2)).map (·.1))), I.laid (t' := s.toks) (fun _ _ => PyProof.Rows.sortedAll_old) (Nat.le_succ _) ⟨hlen, out, ep, vals_of_each he, he'⟩, rfl,
      q _ _ hp (hsrt.imp fun h => by simpa using h) (I.hok.fresh (Nat.le_succ _))⟩
  rcases hs with hs | hs
  · obtain ⟨its, rv, hl, hz⟩ := I.list hs
    obtain ⟨as, hr⟩ := Dp.readsAll I (bs.map fun b => rowP b.2) (bs.map (·.1)) its hd rv
    have hlb : bs.length ≤ sizeLine := by rw [List.length_map] at hz; exact hz
    exact PySem.W.sorted_data (R := fun v (b : V × List Int) => RelV b.1 v) (enc := fun b => rowP b.2) hl.isList (each_of_vals rv) (PySem.W.readsAll_each (fun b : V × List Int => rowP b.2) hr) hal hk hlb hdep fun out h1 h2 => fin its out rv.length hz h1 h2
  · obtain ⟨its, rv, hl, hz⟩ := I.tuple hs
    obtain ⟨as, hr⟩ := Dp.readsAll I (bs.map fun b => rowP b.2) (bs.map (·.1)) its hd rv
    have hlb : bs.length ≤ sizeLine := by rw [List.length_map] at hz; exact hz
    exact sorted_dataT (R := fun v (b : V × List Int) => RelV b.1 v) (enc := fun b => rowP b.2) hl (each_of_vals rv) (PySem.W.readsAll_each (fun b : V × List Int => rowP b.2) hr) hal hk hlb hdep fun out h1 h2 => fin its out rv.length hz h1 h2
def gSortR : List D → (List D → Prop) → Prop
  | [.lst xs], Q => ∃ rs : List (List Int), xs = rs.map rowD ∧ (∀ r ∈ rs, r ≠ []) ∧ ∀ rs' : List (List Int), rs'.Perm rs → rs'.Pairwise (· ≤ ·) → Q (rs'.map rowD)
  | [.tup xs], Q => ∃ rs : List (List Int), xs = rs.map rowD ∧ (∀ r ∈ rs, r ≠ []) ∧ ∀ rs' : List (List Int), rs'.Perm rs → rs'.Pairwise (· ≤ ·) → Q (rs'.map rowD)
  | _, _ => False
theorem zip_rows {K : PySem.W.Frag} {G : Hp} : ∀ {rs : List (List Int)} {us : List V}, RpL K G (rs.map rowD) us → ∃ bs : List (V × List Int), us = bs.map (·.1) ∧ rs = bs.map (·.2) ∧ ∀ b ∈ bs, Rp K G (rowD b.2) b.1
  | [], _, h => ⟨[], h, rfl, fun b hb => by cases hb⟩
  | r :: rs, _, h => by
    obtain ⟨u, us, rfl, h1, h2⟩ := h
    obtain ⟨bs, rfl, rfl, h3⟩ := zip_rows h2
    refine ⟨(u, r) :: bs, rfl, rfl, fun b hb => ?_⟩
    rcases List.mem_cons.mp hb with rfl | hb
    · exact h1
    · exact h3 b hb
theorem rpl_rows {K : PySem.W.Frag} {G : Hp} : ∀ {bs : List (V × List Int)}, (∀ b ∈ bs, Rp K G (rowD b.2) b.1) → RpL K G ((bs.map (·.2)).map rowD) (bs.map (·.1))
  | [], _ => rfl
  | b :: bs, h => ⟨b.1, _, rfl, h b List.mem_cons_self, rpl_rows fun c hc => h c (List.mem_cons_of_mem _ hc)⟩
theorem lf_sortR {K : PySem.W.Frag} : LeafF K (rSortR K) gSortR := fun G H ds vs Qd Q e p hf k => by
  have fin : ∀ (a : Addr) (rs : List (List Int)) (us : List V), (SqL K H a us ∨ SqT K H a us) → RpL K G (rs.map rowD) us → (∀ r ∈ rs, r ≠ []) → (∀ rs' : List (List Int), rs'.Perm rs → rs'.Pairwise (· ≤ ·) → Qd (rs'.map rowD)) → rSortR K [.ref a] H Q := fun a rs us hs hr hne q => by
    have hd := dpRows e hr
    obtain ⟨bs, rfl, rfl, h3⟩ := zip_rows hr
    refine ⟨a, bs, rfl, hs, by rw [List.map_map] at hd; exact hd, fun b hb => hne _ (List.mem_map.mpr ⟨b, hb, rfl⟩), fun bs' p h1 h2 hp => ?_⟩
    exact k _ _ (rpl_rows fun b hb => h3 b (h1.mem_iff.mp hb)) (q (bs'.map (·.2)) (h1.map _) (List.pairwise_map.mpr h2)) p hp
  unfold gSortR at hf
  split at hf
  · obtain ⟨rs, rfl, hne, q⟩ := hf
    obtain ⟨v, rfl, a, us, rfl, h1, h2⟩ := one_of p
    exact fin a rs us (.inl (ex_lt e h1)) h2 hne q
  · obtain ⟨rs, rfl, hne, q⟩ := hf
    obtain ⟨v, rfl, a, us, rfl, h1, h2⟩ := one_of p
    exact fin a rs us (.inr (ex_t e h1)) h2 hne q
  · exact hf.elim
end DL


set_option Elab.async false
set_option linter.all false
set_option maxRecDepth 100000
set_option maxHeartbeats 4000000
set_option autoImplicit true
namespace DL
open PySem PySem.Spec PyProof.Rows L2
/-! ### x in y, y a dict that is only looked at (as data) -/
def fInK (neg : Bool) : D → D → (D → Prop) → Prop := fun x y Q => match y with
  | .dic ks _ => keyOk x = true ∧ Q (.bl (if neg then !hasK ks x else hasK ks x))
  | _ => False
def rInK (neg : Bool) : R2 := fun x y H Q => ∃ a kvs key, x = kV key ∧ y = .ref a ∧ H a = some (.dK kvs) ∧ Q (.bl (if neg then !(valV kvs key).isSome else (valV kvs key).isSome)) H
theorem op_inK {X : Cx} (hu : X.A.units + 1 < cLine) : OpR X (compareOp .In) (rInK false) := by
  intro pins s σ H x y v u Q I rx ry h
  obtain ⟨a, kvs, key, rfl, rfl, hH, q⟩ := h
  obtain rfl : u = Value.ref a := ry
  exact d_in hu I (DGet.k hH) rx fun s3 I3 => ⟨.bl (valV kvs key).isSome, H, I3, rfl, q⟩
theorem op_notInK {X : Cx} (hu : X.A.units + 1 < cLine) : OpR X (compareOp .NotIn) (rInK true) := by
  intro pins s σ H x y v u Q I rx ry h
  obtain ⟨a, kvs, key, rfl, rfl, hH, q⟩ := h
  obtain rfl : u = Value.ref a := ry
  exact d_notIn hu I (DGet.k hH) rx fun s3 I3 => ⟨.bl (!(valV kvs key).isSome), H, I3, rfl, q⟩
theorem lf_inK {K : PySem.W.Frag} (neg : Bool) : Leaf2 K T (rInK neg) (fInK neg) := fun F G H σ δ x y v w Qd Q R px py hf k => by
  unfold fInK at hf
  split at hf
  · rename_i ks vs
    obtain ⟨kk, q⟩ := hf
    obtain ⟨key, rfl⟩ := keyOk_of kk
    have ew : v = kV key := by cases key <;> exact px
    obtain ⟨a, o, us, rfl, h1, ⟨kvs, rfl, rfl, rfl⟩, h3⟩ := py
    rw [any_val, valV_any] at q
    exact ⟨a, kvs, key, ew, rfl, R.ex a _ h1, k G H _ (.bl _) (Ex.refl G) R rfl q⟩
  · exact hf.elim
section
variable {X : Cx} {W : WX} {a b : Expr} {ra rb : DE} {pos : Pos}
theorem dx_inK (hu : X.A.units + 1 < cLine) (ha : PE X a (up X.K T W ra)) (hb : PE X b (up X.K T W rb)) (hm : behindInMarks .In b = false := by rfl) : PE X (.Compare a [.In] [b] pos) (up X.K T W (dBin (fInK false) ra rb)) := dx_cmp (op_inK hu) (lf_inK false) ha hb hm
theorem dx_notinK (hu : X.A.units + 1 < cLine) (ha : PE X a (up X.K T W ra)) (hb : PE X b (up X.K T W rb)) (hm : behindInMarks .NotIn b = false := by rfl) : PE X (.Compare a [.NotIn] [b] pos) (up X.K T W (dBin (fInK true) ra rb)) := dx_cmp (op_notInK hu) (lf_inK true) ha hb hm
theorem dt_inK (hu : X.A.units + 1 < cLine) (ha : PE X a (up X.K T W ra)) (hb : PE X b (up X.K T W rb)) (hm : behindInMarks .In b = false := by rfl) : PT X (.Compare a [.In] [b] pos) (upT X.K T W (dB (dBin (fInK false) ra rb))) := dt_cmp (op_inK hu) (lf_inK false) ha hb hm
theorem dt_notinK (hu : X.A.units + 1 < cLine) (ha : PE X a (up X.K T W ra)) (hb : PE X b (up X.K T W rb)) (hm : behindInMarks .NotIn b = false := by rfl) : PT X (.Compare a [.NotIn] [b] pos) (upT X.K T W (dB (dBin (fInK true) ra rb))) := dt_cmp (op_notInK hu) (lf_inK true) ha hb hm
end
end DL


set_option Elab.async false
set_option linter.all false
set_option maxRecDepth 100000
set_option maxHeartbeats 4000000
set_option autoImplicit true
namespace DL
open PySem PySem.Spec PyProof.Rows L2
/-! ### [e for .. in .. for .. in ..] -/
def lcG2 (xs : List D) (g : DG) (ri1 : DF) (g1 : DG) (re : DE) (vs vs1 : List Nat) (δ1 : Ev) (Q : List D → Ev → Prop) : Prop := ∃ I : Nat → List D → Ev → Prop, I 0 [] (wipeD δ1 vs) ∧
  (∀ i x acc δ2, xs[i]? = some x → I i acc δ2 → g x δ2 fun δ3 => ri1 (fun _ _ => False) δ3 fun ys δ4 => ∃ I1 : Nat → List D → Ev → Prop, I1 0 acc (wipeD δ4 vs1) ∧
    (∀ j y acc1 δ5, ys[j]? = some y → I1 j acc1 δ5 → g1 y δ5 fun δ6 => re (fun _ _ => False) δ6 fun z δ7 => acc1.length < sizeLine ∧ I1 (j + 1) (acc1 ++ [z]) (wipeD δ7 vs1)) ∧
    ∀ acc1 δ5, I1 ys.length acc1 δ5 → I (i + 1) acc1 (wipeD δ5 vs)) ∧
  ∀ acc δ2, I xs.length acc δ2 → Q acc (backD δ1 δ2 vs)
def fLc2 (ri : DF) (g : DG) (ri1 : DF) (g1 : DG) (re : DE) (vs vs1 : List Nat) : DF := fun Xc δ Q => ri Xc δ fun xs δ1 => lcG2 xs g ri1 g1 re vs vs1 δ1 Q
theorem wipe_sub {σ : L2.St} {vs vs1 : List Nat} (h : ∀ i ∈ vs1, i ∈ vs) : wipe (wipe σ vs1) vs = wipe σ vs := by
  have aux : ∀ (us : List Nat) (τ : L2.St), (∀ i ∈ us, i ∈ vs) → wipe (wipe τ us) vs = wipe τ vs := fun us => by
    induction us with
    | nil => intro τ _; rfl
    | cons u us ih =>
      intro τ h
      show wipe ((wipe τ us).set u none) vs = _
      rw [wipe_set (h u List.mem_cons_self)]
      exact ih τ fun i hi => h i (List.mem_cons_of_mem _ hi)
  exact aux vs1 σ h
theorem owns_wipe (δ1 : Ev) : ∀ vs : List Nat, (owns (wipeD δ1 vs)).Sublist (owns δ1)
  | [] => List.Sublist.refl _
  | v :: vs => (owns_set_none rfl _ v).trans (owns_wipe δ1 vs)
section
variable {X : Cx} {T : List (Addr × Str)} {W : WX}
theorem up_lc2 {ri ri1 : DF} {g g1 : DG} {re : DE} {vs vs1 : List Nat} (nd : vs.Nodup) (sub1 : ∀ i ∈ vs1, i ∈ vs) : ∀ σ H Q, upF X.K T W (fLc2 ri g ri1 g1 re vs vs1) σ H Q →
    tLc2 (upI X.K T W ri) (upG X.K T vs g) (upT X.K T (fun _ _ _ _ => False) tYesD) (upI X.K T (fun _ _ _ _ => False) ri1) (upG X.K T vs1 g1) (upT X.K T (fun _ _ _ _ => False) tYesD) (up X.K T (fun _ _ _ _ => False) re) vs vs1 σ H Q := fun σ H Q h => by
  obtain ⟨F, G, δ, Xc, Qd, R, hr, hx, k⟩ := h
  refine ⟨F, G, δ, Xc, _, R, hr, hx, fun G1 H1 xs J δ1 e1 R1 hJ ⟨I, i0, is, id⟩ Dl hD => ?_⟩
  obtain ⟨z1, z2⟩ := R1.fresh_own (nT_no hD)
  refine ⟨fun i m H' => m = xs.length - i ∧ i ≤ xs.length ∧ ∃ G' δ' acc us, Ex G1 G' ∧ Rel X.K T F G' H' (wipe σ vs) δ' ∧ G' Dl = none ∧ H' Dl = some (.lst us) ∧ RpL X.K G' acc us ∧ Dl ∉ owns δ' ∧ I i acc δ',
    ⟨xs.length, by simp, Nat.zero_le _, G1, wipeD δ1 vs, [], [], Ex.refl G1, (R1.temp hD).wipe vs, R1.ex.back hD, upd_same, rfl, fun z => z2 ((owns_wipe δ1 vs).subset z), i0⟩, ?_⟩
  rintro i m H2 ⟨rfl, hi, G2, δ2, acc, us, e2, R2, gD, hD2, pa, nD, h2⟩
  obtain ⟨s1, s2⟩ := hJ F G2 H2 _ δ2 i e2 R2
  by_cases hlt : i < xs.length
  · obtain ⟨g1', _⟩ := s2 xs[i] (List.getElem?_eq_getElem hlt)
    refine .inr ⟨g1', fun H' => ∃ G' δ' acc us, Ex G1 G' ∧ Rel X.K T F G' H' (wipe σ vs) δ' ∧ G' Dl = none ∧ H' Dl = some (.lst us) ∧ RpL X.K G' acc us ∧ Dl ∉ owns δ' ∧ I (i + 1) acc δ', fun H' q => ⟨xs.length - (i + 1), by omega, rfl, hlt, q⟩, fun v H3 hy => ?_⟩
    obtain ⟨_, g2⟩ := (hJ (Fm.re G2 H2 δ2) G2 H2 _ δ2 i e2 R2.rebase).2 xs[i] (List.getElem?_eq_getElem hlt)
    obtain ⟨G3, e3, R3, p3⟩ := g2 v H3 hy
    have stay : ∀ {G' H' σ' δ'}, Rel X.K T (Fm.re G2 H2 δ2) G' H' σ' δ' → G' Dl = none ∧ H' Dl = some (.lst us) ∧ Dl ∉ owns δ' := fun {G' H' σ' δ'} R' => by
      refine ⟨?_, R'.keep Dl _ nD hD2 (fun _ z => nomatch z), fun z => ?_⟩
      · cases q : G' Dl with
        | none => rfl
        | some o =>
          refine absurd gD ?_
          exact R'.gh Dl nD (nT_l hD2) (by rw [q]; simp)
      · rcases R'.own Dl z with q | q
        · exact nD q
        · exact q (nT_l hD2)
    refine ⟨_, G3, δ2, _, _, R3, p3, is i _ acc δ2 (List.getElem?_eq_getElem hlt) h2, fun σ4 δ4 R4 hw q4 => ⟨hw.trans (wipe_wipe vs), ?_⟩⟩
    have hw4 : wipe σ4 vs = wipe σ vs := hw.trans (wipe_wipe vs)
    refine ⟨_, G3, δ4, (fun _ _ => False), (fun b δ => b = true ∧ δ = δ4), R4, ⟨rfl, rfl⟩, (fun _ _ _ _ _ _ z => z.elim), fun G5 H5 b δ5 e5 R5 q5 => ?_⟩
    obtain ⟨rfl, rfl⟩ := q5
    refine iteT ⟨_, G5, δ5, _, _, R5, q4, (fun _ _ _ _ _ _ z => z.elim), fun G6 H6 ys J1 δ6 e6 R6 hJ1 ⟨I1, j0, js, jd⟩ => ?_⟩
    obtain ⟨a1, a2, a3⟩ := stay R6
    have R6' := R2.unbase R6
    refine ⟨fun j k H' => k = ys.length - j ∧ j ≤ ys.length ∧ ∃ G' δ' acc us, Ex G6 G' ∧ Rel X.K T F G' H' (wipe σ4 vs1) δ' ∧ G' Dl = none ∧ H' Dl = some (.lst us) ∧ RpL X.K G' acc us ∧ Dl ∉ owns δ' ∧ I1 j acc δ',
      ⟨ys.length, by simp, Nat.zero_le _, G6, wipeD δ6 vs1, acc, us, Ex.refl G6, R6'.wipe vs1, a1, a2, RpL.mono ((e3.trans e5).trans e6) _ _ pa, fun z => a3 ((owns_wipe δ6 vs1).subset z), j0⟩, ?_⟩
    rintro j k H7 ⟨rfl, hj, G7, δ7, acc1, us1, e7, R7, gD7, hD7, pa7, nD7, h7⟩
    obtain ⟨t1, t2⟩ := hJ1 F G7 H7 _ δ7 j e7 R7
    by_cases hlj : j < ys.length
    · obtain ⟨g3', _⟩ := t2 ys[j] (List.getElem?_eq_getElem hlj)
      refine .inr ⟨g3', fun H' => ∃ G' δ' acc us, Ex G6 G' ∧ Rel X.K T F G' H' (wipe σ4 vs1) δ' ∧ G' Dl = none ∧ H' Dl = some (.lst us) ∧ RpL X.K G' acc us ∧ Dl ∉ owns δ' ∧ I1 (j + 1) acc δ', fun H' q => ⟨ys.length - (j + 1), by omega, rfl, hlj, q⟩, fun v H8 hy1 => ?_⟩
      obtain ⟨_, g4⟩ := (hJ1 (Fm.re G7 H7 δ7) G7 H7 _ δ7 j e7 R7.rebase).2 ys[j] (List.getElem?_eq_getElem hlj)
      obtain ⟨G8, e8, R8, p8⟩ := g4 v H8 hy1
      have stay1 : ∀ {G' H' σ' δ'}, Rel X.K T (Fm.re G7 H7 δ7) G' H' σ' δ' → G' Dl = none ∧ H' Dl = some (.lst us1) ∧ Dl ∉ owns δ' := fun {G' H' σ' δ'} R' => by
        refine ⟨?_, R'.keep Dl _ nD7 hD7 (fun _ z => nomatch z), fun z => ?_⟩
        · cases q : G' Dl with
          | none => rfl
          | some o =>
            refine absurd gD7 ?_
            exact R'.gh Dl nD7 (nT_l hD7) (by rw [q]; simp)
        · rcases R'.own Dl z with q | q
          · exact nD7 q
          · exact q (nT_l hD7)
      refine ⟨_, G8, δ7, _, _, R8, p8, js j _ acc1 δ7 (List.getElem?_eq_getElem hlj) h7, fun σ9 δ9 R9 hw1 q9 => ⟨hw1.trans (wipe_wipe vs1), ?_⟩⟩
      refine ⟨_, G8, δ9, (fun _ _ => False), (fun b δ => b = true ∧ δ = δ9), R9, ⟨rfl, rfl⟩, (fun _ _ _ _ _ _ z => z.elim), fun G10 H10 b δ10 e10 R10 q10 => ?_⟩
      obtain ⟨rfl, rfl⟩ := q10
      refine iteT ⟨_, G10, δ10, _, _, R10, q9, (fun _ _ _ _ _ _ z => z.elim), fun G11 H11 y d δ11 e11 R11 p11 q11 => ?_⟩
      have ws : Rel X.K T (Fm.re G7 H7 δ7) G11 H11 (wipe σ4 vs1) (wipeD δ11 vs1) := by
        have q := R11.wipe vs1
        rw [hw1.trans (wipe_wipe vs1)] at q
        exact q
      obtain ⟨b1, b2, b3⟩ := stay1 ws
      refine ⟨us1, (stay1 R11).2.1, by rw [pa7.length]; exact q11.1, G11, wipeD δ11 vs1, acc1 ++ [d], us1 ++ [y], ((e7.trans e8).trans e10).trans e11, (R7.unbase ws).poke b2 b1 b3 z1, b1, upd_same, ?_, b3, q11.2⟩
      exact (RpL.mono ((e8.trans e10).trans e11) _ _ pa7).append (es := [d]) ⟨y, [], rfl, p11, rfl⟩
    · have e : j = ys.length := by omega
      subst e
      refine .inl ⟨t1 (Nat.le_refl _), G7, wipeD δ7 vs, acc1, us1, (((e2.trans e3).trans e5).trans e6).trans e7, ?_, gD7, hD7, pa7, fun z => nD7 ((owns_wipe δ7 vs).subset z), jd acc1 δ7 h7⟩
      have q := R7.wipe vs
      rw [wipe_sub sub1, hw4] at q
      exact q
  · have e : i = xs.length := by omega
    subst e
    refine .inl ⟨s1 (Nat.le_refl _), k G2 H2 Dl us acc _ (e1.trans e2) (R1.back e2 vs δ2 nd R2) gD hD2 pa z1 ?_ (id acc δ2 h2)⟩
    have sub : ∀ vs : List Nat, (owns (backD δ1 δ2 vs)).Sublist (owns δ2) := fun vs => by
      induction vs with
      | nil => exact List.Sublist.refl _
      | cons v vs ih =>
        refine (owns_set_none ?_ _ v).trans ih
        cases q : δ1[v]? with
        | none => rfl
        | some s => cases s <;> rfl
    exact fun z => nD ((sub vs).subset z)
theorem df_lc2 {elt tg iter tg1 iter1 : Expr} {scope : Scope} {own : List (Str × Nat)} {vs1 : List Nat} {pos : Pos} {ri ri1 : DF} {g g1 : DG} {re : DE} (hc : X.calm = true) (hN : X.N.Nodup) (nd : (own.map (·.2)).Nodup) (hv : ∀ i ∈ vs1, i ∈ own.map (·.2)) (hi : PI X tg iter (upI X.K T W ri)) (ok : BlkOk X.N X.env.scope scope own)
    (hg : ∀ (s : Shared) (H : Hp) (C : Addr) (cl : List (Str × Addr)) (fp : List Addr), PG (X.blk s H scope (compEnvC scope cl C X.env) fp) tg (upG X.K T (own.map (·.2)) g))
    (hi1 : ∀ (s : Shared) (H : Hp) (C : Addr) (cl : List (Str × Addr)) (fp : List Addr), PI (X.blk s H scope (compEnvC scope cl C X.env) fp) tg1 iter1 (upI X.K T (fun _ _ _ _ => False) ri1))
    (hg1 : ∀ (s : Shared) (H : Hp) (C : Addr) (cl : List (Str × Addr)) (fp : List Addr), PG (X.blk s H scope (compEnvC scope cl C X.env) fp) tg1 (upG X.K T vs1 g1))
    (he : ∀ (s : Shared) (H : Hp) (C : Addr) (cl : List (Str × Addr)) (fp : List Addr), PE (X.blk s H scope (compEnvC scope cl C X.env) fp) elt (up X.K T (fun _ _ _ _ => False) re)) (hs : ∀ x, foldedSetIterable iter X.env x = pure x := by intro _; rfl) (hs1 : ∀ env x, foldedSetIterable iter1 env x = pure x := by intro _ _; rfl) :
    PE X (.ListComp elt [⟨tg, iter, [], 0⟩, ⟨tg1, iter1, [], 0⟩] scope pos) (upF X.K T W (fLc2 ri g ri1 g1 re (own.map (·.2)) vs1)) :=
  PEi (pe_lc2 hc hN hi ok hv hg (fun _ _ _ _ _ => dts_nil) hi1 hg1 (fun _ _ _ _ _ => dts_nil) he hs hs1) (up_lc2 nd hv)
end
end DL


set_option Elab.async false
set_option linter.all false
set_option maxRecDepth 100000
set_option autoImplicit true
namespace DL
open PySem PySem.Spec PyProof.Rows L2
/-! ### what is never reached: a reading that asks False -/
def dStuck : DE := fun _ _ _ => False
def sStuck : DS := fun _ _ => False
section
variable {X : Cx} {T : List (Addr × Str)} {W : WX} {e : Expr} {st : Stmt}
theorem dx_stuck : PE X e (up X.K T W dStuck) := ⟨fun pins s σ H Q I h => by
  obtain ⟨F, G, δ, Xc, Qd, R, hr, _⟩ := h
  exact hr.elim⟩
theorem ds_stuck : PS X st (upS X.K T W sStuck) := ⟨fun pins s σ H D I h => by
  obtain ⟨F, G, δ, Dd, R, hr, _⟩ := h
  exact hr.elim⟩
end
end DL


set_option Elab.async false
set_option linter.all false
set_option maxRecDepth 100000
set_option autoImplicit true
namespace DL
open PySem PySem.Spec PyProof.Rows L2
/-! ### for over a list that is owned and only read in the loop -/
def forOG (j : Nat) (p : Addr) (xs zs : List D) (g : DG) (body : DS) (Dd : DEnds) (δ1 : Ev) : Prop := ∃ I : Nat → Ev → Prop, I 0 δ1 ∧ (∀ i δ2, I i δ2 → δ2[j]? = some (.o p xs)) ∧
  (∀ i x δ2, zs[i]? = some x → I i δ2 → g x δ2 fun δ3 => body { Dd with nx := I (i + 1), ct := I (i + 1), bk := Dd.nx } δ3) ∧ ∀ δ2, I zs.length δ2 → Dd.nx δ2
/-- for i, x in enumerate(found) -/
def sForEO (j : Nat) (g : DG) (body : DS) : DS := fun Dd δ => match δ[j]? with
  | some (.o p xs) => forOG j p xs (enumD xs) g body Dd δ
  | _ => False
/-- for x in found -/
def sForLO (j : Nat) (g : DG) (body : DS) : DS := fun Dd δ => match δ[j]? with
  | some (.o p xs) => forOG j p xs xs g body Dd δ
  | _ => False
def ItOkO (K : PySem.W.Frag) (T : List (Addr × Str)) (j : Nat) (p : Addr) (ys : List D) (J : It) (xs : List D) : Prop := ∀ F G1 H1 σ1 δ1 i, Rel K T F G1 H1 σ1 δ1 → δ1[j]? = some (.o p ys) →
  (xs.length ≤ i → J.stop i H1) ∧ ∀ x, xs[i]? = some x → J.go i H1 ∧ ∀ v H2, J.yld i H1 v H2 → ∃ G2, Ex G1 G2 ∧ Rel K T F G2 H2 σ1 δ1 ∧ Rp K G2 x v
theorem itoko_l {K : PySem.W.Frag} {T : List (Addr × Str)} {j : Nat} {p : Addr} {xs : List D} : ItOkO K T j p xs (Itl K p) xs := fun F G1 H1 σ1 δ1 i R hj => by
  obtain ⟨_, _, us, h0, pp⟩ := R.oget hj
  have h1 : SqL K H1 p us := SqL.of h0
  refine ⟨fun hi => ⟨us, h1, by rw [pp.length]; exact hi⟩, fun x hx => ?_⟩
  obtain ⟨v, hv, pv⟩ := pp.get hx
  refine ⟨⟨us, v, h1, hv⟩, fun w H2 ⟨e2, hw⟩ => ?_⟩
  subst e2
  have := hw us h1
  rw [hv] at this
  cases this
  exact ⟨G1, Ex.refl G1, R, pv⟩
theorem itoko_e {K : PySem.W.Frag} {T : List (Addr × Str)} {j : Nat} {p : Addr} {xs : List D} : ItOkO K T j p xs (Ite K p) (enumD xs) := fun F G1 H1 σ1 δ1 i R hj => by
  obtain ⟨_, _, us, h0, pp⟩ := R.oget hj
  have h1 : SqL K H1 p us := SqL.of h0
  refine ⟨fun hi => ⟨us, h1, by rw [pp.length]; rwa [enumD, List.length_mapIdx] at hi⟩, fun x hx => ?_⟩
  rw [enumD, List.getElem?_mapIdx] at hx
  cases q : xs[i]? with
  | none => rw [q] at hx; cases hx
  | some d =>
    rw [q] at hx
    obtain rfl := (Option.some.inj hx).symm
    obtain ⟨v, hv, pv⟩ := pp.get q
    refine ⟨⟨us, v, h1, hv⟩, fun w H2 ⟨c, y, ew, hc, eh, hw⟩ => ?_⟩
    subst ew eh
    have := hw us h1
    rw [hv] at this
    cases this
    exact pairG R hc rfl pv
section
variable {X : Cx} {W : WX}
theorem ds_forEO {body : List Stmt} {g : DG} {vs : List Nat} {r : DS} {pos p0 pos' px tpos : Pos} {elts : List Expr} {kk : Nat} (j : Nat) {x : Str} (hp : PassesOwn (model X.prog X.w) X.A X.env X.xe) (hc : X.calm = true) (hm : X.mg "enumerate" = none)
    (hg : PG X (.Tuple elts kk tpos) (upG X.K T vs g)) (hb : PSs X body (upS X.K T W r)) (hN : X.N[j]? = some x := by rfl) (hv : Vis X.env.scope x := by first | exact Or.inl rfl | exact Or.inr (Or.inl rfl) | exact Or.inr (Or.inr rfl)) (hd : (x == ("__debug__" : Str)) = false := by decide)
    (hcd : (x == ("__classdict__" : Str)) = false := by decide) (hgl : Gl X "enumerate" := by rfl) (hs : starEach [.Name x px] X.env = [(false, eval (.Name x px) X.env)] := by rfl) (hs1 : starEach (.Name x px :: []) X.env = (false, eval (.Name x px) X.env) :: starEach [] X.env := by rfl)
    (hs2 : ∀ y, foldedSetIterable (.Call (.Name "enumerate" p0) [.Name x px] [] pos') X.env y = pure y := by intro _; rfl) : PS X (.For (.Tuple elts kk tpos) (.Call (.Name "enumerate" p0) [.Name x px] [] pos') body [] pos) (upS X.K T W (sForEO j g r)) :=
  PSi (ps_for hp hc (pi_enum hgl hm (pa_cons (pe_var hN hv hd hcd) pa_nil hs1) hs) hg hb hs2) fun Dn σ H h => by
  obtain ⟨F, G, δ, Dd, R, hr, k⟩ := h
  unfold sForEO at hr
  split at hr
  · rename_i p xs hj
    obtain ⟨I, i0, ik, is, id⟩ := hr
    obtain ⟨h1, _, us, h3, _⟩ := R.oget hj
    refine ⟨_, h1, p, us, rfl, SqL.of h3, ?_⟩
    refine ⟨fun i m σ' H' => m = (enumD xs).length - i ∧ i ≤ (enumD xs).length ∧ ∃ G' δ', Ex G G' ∧ Rel X.K T F G' H' σ' δ' ∧ I i δ', ⟨(enumD xs).length, by simp, Nat.zero_le _, G, δ, Ex.refl G, R, i0⟩, ?_⟩
    rintro i m σ2 H2 ⟨rfl, hi, G2, δ2, e2, R2, h2⟩
    obtain ⟨s1, s2⟩ := itoko_e F G2 H2 σ2 δ2 i R2 (ik i δ2 h2)
    by_cases hlt : i < (enumD xs).length
    · obtain ⟨g1, g2⟩ := s2 (enumD xs)[i] (List.getElem?_eq_getElem hlt)
      refine .inr ⟨g1, fun σ' H' => ∃ G' δ', Ex G G' ∧ Rel X.K T F G' H' σ' δ' ∧ I (i + 1) δ', fun σ' H' q => ⟨(enumD xs).length - (i + 1), by omega, rfl, hlt, q⟩, fun v H3 hy => ?_⟩
      obtain ⟨G3, e3, R3, p3⟩ := g2 v H3 hy
      refine ⟨F, G3, δ2, _, _, R3, p3, is i _ δ2 (List.getElem?_eq_getElem hlt) h2, fun σ4 δ4 R4 _ q4 => ?_⟩
      have kk := k.mono (e2.trans e3)
      exact ⟨F, G3, δ4, _, R4, q4, fun G' H' σ' δ' e R' q => ⟨G', δ', (e2.trans e3).trans e, R', q⟩, kk.rt, kk.nx, fun G' H' σ' δ' e R' q => ⟨G', δ', (e2.trans e3).trans e, R', q⟩, kk.xe⟩
    · have e : i = (enumD xs).length := by omega
      subst e
      exact .inl ⟨s1 (Nat.le_refl _), k.nx G2 H2 σ2 δ2 e2 R2 (id δ2 h2)⟩
  · exact hr.elim
theorem ds_forLO {tg : Expr} {body : List Stmt} {g : DG} {vs : List Nat} {r : DS} {pos px : Pos} (j : Nat) {x : Str} (hp : PassesOwn (model X.prog X.w) X.A X.env X.xe) (hc : X.calm = true)
    (hg : PG X tg (upG X.K T vs g)) (hb : PSs X body (upS X.K T W r)) (hN : X.N[j]? = some x := by rfl) (hv : Vis X.env.scope x := by first | exact Or.inl rfl | exact Or.inr (Or.inl rfl) | exact Or.inr (Or.inr rfl)) (hd : (x == ("__debug__" : Str)) = false := by decide)
    (hcd : (x == ("__classdict__" : Str)) = false := by decide)
    (hs2 : ∀ y, foldedSetIterable (.Name x px) X.env y = pure y := by intro _; rfl) : PS X (.For tg (.Name x px) body [] pos) (upS X.K T W (sForLO j g r)) :=
  PSi (ps_for hp hc (pi_seqV (pe_var hN hv hd hcd)) hg hb hs2) fun Dn σ H h => by
  obtain ⟨F, G, δ, Dd, R, hr, k⟩ := h
  unfold sForLO at hr
  split at hr
  · rename_i p xs hj
    obtain ⟨I, i0, ik, is, id⟩ := hr
    obtain ⟨h1, _, us, h3, _⟩ := R.oget hj
    refine ⟨_, h1, p, rfl, .inl ⟨⟨us, SqL.of h3⟩, ?_⟩⟩
    refine ⟨fun i m σ' H' => m = xs.length - i ∧ i ≤ xs.length ∧ ∃ G' δ', Ex G G' ∧ Rel X.K T F G' H' σ' δ' ∧ I i δ', ⟨xs.length, by simp, Nat.zero_le _, G, δ, Ex.refl G, R, i0⟩, ?_⟩
    rintro i m σ2 H2 ⟨rfl, hi, G2, δ2, e2, R2, h2⟩
    obtain ⟨s1, s2⟩ := itoko_l F G2 H2 σ2 δ2 i R2 (ik i δ2 h2)
    by_cases hlt : i < xs.length
    · obtain ⟨g1, g2⟩ := s2 xs[i] (List.getElem?_eq_getElem hlt)
      refine .inr ⟨g1, fun σ' H' => ∃ G' δ', Ex G G' ∧ Rel X.K T F G' H' σ' δ' ∧ I (i + 1) δ', fun σ' H' q => ⟨xs.length - (i + 1), by omega, rfl, hlt, q⟩, fun v H3 hy => ?_⟩
      obtain ⟨G3, e3, R3, p3⟩ := g2 v H3 hy
      refine ⟨F, G3, δ2, _, _, R3, p3, is i _ δ2 (List.getElem?_eq_getElem hlt) h2, fun σ4 δ4 R4 _ q4 => ?_⟩
      have kk := k.mono (e2.trans e3)
      exact ⟨F, G3, δ4, _, R4, q4, fun G' H' σ' δ' e R' q => ⟨G', δ', (e2.trans e3).trans e, R', q⟩, kk.rt, kk.nx, fun G' H' σ' δ' e R' q => ⟨G', δ', (e2.trans e3).trans e, R', q⟩, kk.xe⟩
    · have e : i = xs.length := by omega
      subst e
      exact .inl ⟨s1 (Nat.le_refl _), k.nx G2 H2 σ2 δ2 e2 R2 (id δ2 h2)⟩
  · exact hr.elim
end
end DL


set_option Elab.async false
set_option linter.all false
set_option maxRecDepth 100000
set_option autoImplicit true
namespace DL
open PySem PySem.Spec PyProof.Rows L2
/-! ### list(range(a, b, c)), tuple(range(n)) -/
def rgC3 (i c : Int) (n : Nat) : List V := (List.range n).map fun (k : Nat) => V.int (i + (k : Int) * c)
theorem rgC3_D {K : PySem.W.Frag} {G : Hp} (i c : Int) (n : Nat) : RpL K G ((List.range n).map fun (k : Nat) => D.int (i + (k : Int) * c)) (rgC3 i c n) := by
  unfold rgC3
  generalize List.range n = l
  induction l with
  | nil => exact rfl
  | cons k l ih => exact ⟨_, _, rfl, rfl, ih⟩
theorem vals_rgC {i c : Int} {n : Nat} {acc : Array Value} (h : ItemsOf (fun k v => ∃ t, v = .int (i + k * c) t) acc n) : Vals (rgC3 i c n) acc.toList := by
  have e : acc.toList.length = n := by rw [Array.length_toList]; exact h.1
  unfold rgC3
  rw [← e]
  refine vals_of_get acc.toList _ fun j u hj => ?_
  obtain ⟨t, rfl⟩ := h.2 j u (by rw [← hj, Array.getElem?_toList])
  exact ⟨t, rfl⟩
def tLstRg3 (ta : TA) : TE := fun σ H Q => ta σ H fun vs H1 => ∃ (i j c : Int) (n : Nat), vs = [.int i, .int j, .int c] ∧ RgC i j c n ∧ n ≤ 2 ^ 24 ∧ ∀ q, H1 q = none → Q (.ref q) (upd H1 q (.lst (rgC3 i c n)))
theorem pe_listRg3 {X : Cx} {a b c : Expr} {ta : TA} {p p2 pos pos2 : Pos} (hc : X.calm = true) (hg : Gl X "list") (hl : X.mg "list" = none) (hg2 : Gl X "range") (hm : X.mg "range" = none) (ha : PA X [a, b, c] ta)
    (hs : starEach [a, b, c] X.env = (false, eval a X.env) :: starEach [b, c] X.env) (hpl : (backTo pos2 (starEach [b, c] X.env)).any (·.1) = false)
    (na : starEach [.Call (.Name "range" p2) [a, b, c] [] pos2] X.env = (false, eval (.Call (.Name "range" p2) [a, b, c] [] pos2) X.env) :: starEach [] X.env) :
    PE X (.Call (.Name "list" p) [.Call (.Name "range" p2) [a, b, c] [] pos2] [] pos) (tLstRg3 ta) := by
  refine ⟨fun pins s σ H Q I h => ?_⟩
  have he : wpAny (model X.prog X.w) X.A (eval (.Call (.Name "range" p2) [a, b, c] [] pos2) X.env) (fun x s' => ∃ r i j k n t u v H', x = .ref r ∧ IsRange s'.heap r i j k t u v ∧ Inv X pins σ H' s' ∧ RgC i j k n ∧ n ≤ 2 ^ 24 ∧ ∀ q, H' q = none → Q (.ref q) (upd H' q (.lst (rgC3 i k n)))) X.xe s := by
    refine Call_ (ld_blt I hg2 hm boot_range (PyProof.Rows.callWith_type1 (thn (ha.run pos2 pins s σ H _ I h) fun us s1 ⟨vs, H1, I1, r1, q1⟩ => ?_) hs hpl))
    obtain ⟨i, j, k, n, e, rc, n4, q⟩ := q1
    obtain ⟨c0, c1, c2, c3⟩ := id rc
    subst e
    cases r1 with
    | cons r rr =>
      cases rr with
      | cons r' rr =>
        cases rr with
        | cons r'' rr =>
          cases rr
          obtain ⟨t, rfl⟩ := r
          obtain ⟨t', rfl⟩ := r'
          obtain ⟨t'', rfl⟩ := r''
          refine call_range_3 c0 ?_ (.inl (PyProof.noPylong_small c1))
          exact ⟨_, i, j, k, n, _, _, _, H1, rfl, IsRange.new _ _ _ _ _ _ _, I1.kept (t' := s1.toks) fun b o e => Heap.get?_push_of_some _ e, rc, n4, q⟩
  refine Call_ (ld_blt I hg hl boot_list (PyProof.Rows.callWith_type1 (args_cons (thn he fun x s1 ⟨r, i, j, k, n, t, u, v, H1, ex, hr, I1, rc, n4, q⟩ => args_nil ?_) na) na rfl))
  subst ex
  obtain ⟨c0, c1, c2, c3⟩ := rc
  refine call_list_range (n := n) (I1.ok.hd hc) hr c2 c3 n4 fun h' tk acc c' hk e' hi => ?_
  refine ⟨.ref s1.heap.objs.size, upd H1 s1.heap.objs.size (.lst (rgC3 i k n)), I1.laid hk (Nat.le_refl _) (show ObjOk X.prog X.w _ _ _ (.lst (rgC3 i k n)) from ⟨?_, acc.toList, c', vals_rgC hi, ?_⟩), rfl, q _ (I1.hok.fresh (Nat.le_refl _))⟩
  · unfold rgC3; rw [List.length_map, List.length_range, sizeLine_eq]; omega
  · rw [Array.toArray_toList]; exact e'
/-- list(range(a, b, c)) -/
def fRng3 (s : DF) : DF := fun Xc δ Q => s Xc δ fun xs δ' => match xs with
  | [.int m, .int n, .int c] => ∃ k, RgC m n c k ∧ k ≤ 2 ^ 24 ∧ Q ((List.range k).map fun (i : Nat) => D.int (m + (i : Int) * c)) δ'
  | _ => False
/-- tuple(range(n)) -/
def dTupRg1 (ra : DE) : DE := fun Xc δ Q => ra Xc δ fun x δ1 => match x with
  | .int n => RgOk 0 n ∧ Q (.tup (rngD 0 (n - 0).toNat)) δ1
  | _ => False
section
variable {X : Cx} {T : List (Addr × Str)} {W : WX} {a b c : Expr} {ra rb : DE} {sf : DF} {p p2 pos pos2 : Pos}
theorem df_rng3 (hc : X.calm = true) (hl : X.mg "list" = none) (hm : X.mg "range" = none) (ha : PA X [a, b, c] (upA X.K T W sf)) (hg : Gl X "list" := by rfl) (hg2 : Gl X "range" := by rfl) (hs : starEach [a, b, c] X.env = (false, eval a X.env) :: starEach [b, c] X.env := by rfl) (hpl : (backTo pos2 (starEach [b, c] X.env)).any (·.1) = false := by rfl)
    (na : starEach [.Call (.Name "range" p2) [a, b, c] [] pos2] X.env = (false, eval (.Call (.Name "range" p2) [a, b, c] [] pos2) X.env) :: starEach [] X.env := by rfl) :
    PE X (.Call (.Name "list" p) [.Call (.Name "range" p2) [a, b, c] [] pos2] [] pos) (upF X.K T W (fRng3 sf)) := PEi (pe_listRg3 hc hg hl hg2 hm ha hs hpl na) fun σ H Q h => by
  obtain ⟨F, G, δ, Xc, Qd, R, hr, hx, k⟩ := h
  refine ⟨F, G, δ, Xc, _, R, hr, hx, fun G1 H1 vs ds δ1 e1 R1 p1 q1 => ?_⟩
  split at q1
  · rename_i m n c
    obtain ⟨v1, r1, rfl, h1, v2, r2, rfl, h2, v3, r3, rfl, h3, h4⟩ := p1
    obtain rfl := h1
    obtain rfl := h2
    obtain rfl := h3
    obtain rfl : r3 = [] := h4
    obtain ⟨kk, a1, a2, q⟩ := q1
    exact ⟨m, n, c, kk, rfl, a1, a2, newF (us := rgC3 m c kk) (ds := (List.range kk).map fun (i : Nat) => D.int (m + (i : Int) * c)) e1 R1 (rgC3_D m c kk) q k⟩
  · exact q1.elim
theorem dx_tupRg1 (hc : X.calm = true) (hl : X.mg "tuple" = none) (hm : X.mg "range" = none) (ha : PE X a (up X.K T W ra)) (hg : Gl X "tuple" := by rfl) (hg2 : Gl X "range" := by rfl) (na : starEach [a] X.env = (false, eval a X.env) :: starEach [] X.env := by rfl)
    (nb : starEach [.Call (.Name "range" p2) [a] [] pos2] X.env = (false, eval (.Call (.Name "range" p2) [a] [] pos2) X.env) :: starEach [] X.env := by rfl) :
    PE X (.Call (.Name "tuple" p) [.Call (.Name "range" p2) [a] [] pos2] [] pos) (up X.K T W (dTupRg1 ra)) := PEi (pe_tupRg hc hg hl (prg_1 hg2 hm ha na) nb) fun σ H Q h => by
  obtain ⟨F, G, δ, Xc, Qd, R, hr, hx, k⟩ := h
  refine ⟨F, G, δ, Xc, _, R, hr, hx, fun G1 H1 v d δ1 e1 R1 p1 q1 => ?_⟩
  cases d with
  | int n =>
    obtain rfl := p1
    refine ⟨n, rfl, q1.1, fun q hq => ?_⟩
    exact k _ _ _ (.tup (rngD 0 (n - 0).toNat)) δ1 (e1.trans (Ex.new (R1.ex.back hq))) (R1.alloc hq) ⟨q, _, rfl, .inl (.inl upd_same), rgV_D 0 n⟩ q1.2
  | _ => exact q1.elim
end
end DL


set_option Elab.async false
set_option linter.all false
set_option maxRecDepth 100000
set_option autoImplicit true
namespace DL
open PySem PySem.Spec PyProof.Rows L2
/-! ### x[a:b] = a fresh list, x an owned list -/
def gSlc (to : TE) (tl th : TO) : TG := fun v σ H Q => to σ H fun o H1 => tl σ H1 fun lo H2 => th σ H2 fun hi H3 => ∃ l b xs ys a c, o = .ref l ∧ v = .ref b ∧ lo = some a ∧ hi = some c ∧ H3 l = some (.lst xs) ∧ H3 b = some (.lst ys) ∧ l ≠ b ∧ 0 ≤ a ∧ a ≤ c ∧ c ≤ (xs.length : Int) ∧ xs.length + ys.length ≤ sizeLine ∧ Q σ (upd H3 l (.lst (xs.take a.toNat ++ ys ++ xs.drop c.toNat)))
theorem pg_slc {X : Cx} {o : Expr} {lo hi : Option Expr} {to : TE} {tl th : TO} {p2 pos : Pos} (ho : PE X o to) (hl : PO X lo tl) (hu : PO X hi th)
    (ha : ∀ v, assign (.Subscript o (.Slice lo hi none p2) pos) X.env v = (do
      let ov ← holding [v] (eval o X.env)
      let iv ← holding [v, ov] (eval (.Slice lo hi none p2) X.env)
      standAt pos
      holding [v, ov, iv] (setItem ov iv v)
      release [iv, v, ov] []) := by intro _; rfl) : PG X (.Subscript o (.Slice lo hi none p2) pos) (gSlc to tl th) := by
  refine ⟨fun pins s σ H v u Q I r h => ?_⟩
  rw [ha]
  refine wpAny_bind (wpAny_holding (thn (ho.run pins s σ H _ I h) fun ov s1 ⟨x, H1, I1, r1, q1⟩ => ?_))
  refine wpAny_bind (wpAny_holding (wpAny_Slice (thn (hl.run pins s1 σ H1 _ I1 q1) fun vl s2 ⟨l, H2, I2, pl, q2⟩ => thn (hu.run pins s2 σ H2 _ I2 q2) fun vu s3 ⟨u, H3, I3, pu, q3⟩ => ?_)))
  rw [evalPart_none]
  refine wpAny_pure ?_
  have I4 : Inv X pins σ H3 { s3 with heap := s3.heap.push { cls := .type "slice", data := .fields #[vl, vu, .none] } } := I3.kept (t' := s3.toks) fun b ob q => Heap.get?_push_of_some _ q
  obtain ⟨l, b, xs, ys, a, c, rfl, rfl, rfl, rfl, hH, hB, hne, h0, hac, hc, hz, q⟩ := q3
  cases r1
  cases r
  cases pl
  cases pu
  refine wpAny_bind (wpAny_standAt (wpAny_bind (wpAny_holding ?_)))
  refine set_slice I4 hH hB hne (Heap.IsSliceOf.new ..) ⟨_, rfl⟩ ⟨_, rfl⟩ h0 hac hc hz fun s' I' => ?_
  exact wpAny_release ⟨σ, _, I', q⟩
def sSetSl (j : Nat) (rl rh re : DE) : DS := fun Dd δ => match δ[j]? with
  | some (.o _ _) => re Dd.xe δ fun x δ1 => match x with
    | .lst ys => rl Dd.xe δ1 fun i δ2 => match i with
      | .int a => rh Dd.xe δ2 fun i2 δ3 => match δ3[j]?, i2 with
        | some (.o p xs), .int c => 0 ≤ a ∧ a ≤ c ∧ c ≤ (xs.length : Int) ∧ xs.length + ys.length ≤ sizeLine ∧ Dd.nx (δ3.set j (.o p (xs.take a.toNat ++ ys ++ xs.drop c.toNat)))
        | _, _ => False
      | _ => False
    | _ => False
  | _ => False
section
variable {X : Cx} {T : List (Addr × Str)} {W : WX} {e a b : Expr} {re ra rb : DE}
theorem ds_setSl (j : Nat) {x : Str} {px p2 pos pos' : Pos} (ha : PE X a (up X.K T W ra)) (hb : PE X b (up X.K T W rb)) (he : PE X e (up X.K T W re)) (hN : X.N[j]? = some x := by rfl) (hv : Vis X.env.scope x := by first | exact Or.inl rfl | exact Or.inr (Or.inl rfl) | exact Or.inr (Or.inr rfl)) (hd : (x == ("__debug__" : Str)) = false := by decide)
    (hcd : (x == ("__classdict__" : Str)) = false := by decide) (hsto : ∀ v, assign (.Subscript (.Name x px) (.Slice (some a) (some b) none p2) pos') X.env v = (do
      let ov ← holding [v] (eval (.Name x px) X.env)
      let iv ← holding [v, ov] (eval (.Slice (some a) (some b) none p2) X.env)
      standAt pos'
      holding [v, ov, iv] (setItem ov iv v)
      release [iv, v, ov] []) := by intro _; rfl) (hs : swapsWithSole [.Subscript (.Name x px) (.Slice (some a) (some b) none p2) pos'] e pos.line X.env = pure false := by rfl) (hw : swappedStores [.Subscript (.Name x px) (.Slice (some a) (some b) none p2) pos'] e X.env = pure none := by rfl) :
    PS X (.Assign [.Subscript (.Name x px) (.Slice (some a) (some b) none p2) pos'] e pos) (upS X.K T W (sSetSl j ra rb re)) :=
  PSi (ps_asg he (pg_slc (pe_var hN hv hd hcd) (po_some ha) (po_some hb) hsto) hs hw) fun Dn σ H h => by
  obtain ⟨F, G, δ, Dd, R, hr, k⟩ := h
  unfold sSetSl at hr
  split at hr
  · rename_i p0 xs0 hj0
    obtain ⟨h0, _, us0, h1, _⟩ := R.oget hj0
    refine ⟨F, G, δ, Dd.xe, _, R, hr, k.x, fun G1 H1 w d δ1 e1 R1 p1 q1 => ?_⟩
    split at q1
    · rename_i ys
      obtain ⟨b1, us1, rfl, hb1, rl1⟩ := p1
      refine ⟨_, h0, F, G1, δ1, Dd.xe, _, R1, q1, (k.mono e1).x, fun G2 H2 w2 d2 δ2 e2 R2 p2 q2 => ?_⟩
      split at q2
      · rename_i a
        refine ⟨a, p2, F, G2, δ2, Dd.xe, _, R2, q2, (k.mono (e1.trans e2)).x, fun G3 H3 w3 d3 δ3 e3 R3 p3 q3 => ?_⟩
        split at q3
        · rename_i p xs c hj
          obtain ⟨g2, g3, us, g4, g5⟩ := R3.oget hj
          rw [h0] at g2
          cases g2
          obtain ⟨a1, a2, a3, a4, q⟩ := q3
          have hG : G3 b1 = some (.lst us1) := (e2.trans e3) _ _ hb1
          have l5 := g5.length
          have l1 := rl1.length
          refine ⟨c, p3, p0, b1, us, us1, a, c, rfl, rfl, rfl, rfl, g4, R3.ex _ _ hG, fun e => ?_, a1, a2, by omega, by omega, ?_⟩
          · rw [e, hG] at g3; cases g3
          · exact k.nx G3 _ σ _ ((e1.trans e2).trans e3) (R3.mut hj (RpL.append (RpL.append (g5.take _) (RpL.mono (e2.trans e3) _ _ rl1)) (g5.drop _))) q
        · exact q3.elim
      · exact q2.elim
    · exact q1.elim
  · exact hr.elim
end
end DL


set_option Elab.async false
set_option linter.all false
set_option maxRecDepth 100000
set_option autoImplicit true
namespace DL
open PySem PySem.Spec PyProof.Rows L2
/-! ### functions as values: the name of a def, a call of what a local holds -/
def faOf (mg : Str → Option Value) (x : Str) : Addr := match mg x with
  | some (.ref f) => f
  | _ => 0
theorem faOf_eq {mg : Str → Option Value} {x : Str} {f : Addr} (h : mg x = some (.ref f)) : faOf mg x = f := by unfold faOf; rw [h]
theorem Dfn.mgf {P : Program} {w : World} {K : PySem.W.Frag} {mg : Str → Option Value} {base : Heap} {x : Str} {k : Nat} {sp : Sp} (Df : Dfn P w K mg base x k sp) : mg x = some (.ref (faOf mg x)) := by
  obtain ⟨f, fd, ps, F, h1, _⟩ := Df.ex
  rw [faOf_eq h1]; exact h1
structure FnAt (X : Cx) (T : List (Addr × Str)) (j : Nat) (c : Addr × FS) : Prop where
  ex : ∃ (k n : Nat) (fd : FuncData) (ps : List Str), k ≤ j ∧ FnOk X.prog X.w X.K X.mg X.base (L2.CX X.prog X.w) k c.1 fd ps (spA X.K T n c.2) ∧ PySem.W.keepIn X.K (.ref c.1) = true ∧ L2.Binds X.K fd ps [] ∧ ∀ ds Qd Ed, c.2 ds Qd Ed → ds.length = n
section
variable {X : Cx} {T : List (Addr × Str)} {W : WX} {k j n : Nat} {S : FS} {x : Str} {pos p : Pos} {e : Expr} {es : List Expr} {s : DF}
theorem fnat (Df : Dfn X.prog X.w X.K X.mg X.base x k (spA X.K T n S)) (hk : k ≤ j) (hn : ∀ ds Qd Ed, S ds Qd Ed → ds.length = n) : FnAt X T j (faOf X.mg x, S) := by
  obtain ⟨f, fd, ps, F, h1, h2, h3⟩ := Df.ex
  obtain rfl := faOf_eq h1
  exact ⟨k, n, fd, ps, hk, F, h2, h3, hn⟩
theorem fa_nil : ∀ c ∈ ([] : List (Addr × FS)), FnAt X T j c := fun c h => by cases h
theorem fa_cons {c : Addr × FS} {cs : List (Addr × FS)} (h : FnAt X T j c) (t : ∀ c ∈ cs, FnAt X T j c) : ∀ x ∈ c :: cs, FnAt X T j x := fun x hx => by
  rcases List.mem_cons.mp hx with rfl | hx
  · exact h
  · exact t x hx
theorem dx_fnv {sp : Sp} (Df : Dfn X.prog X.w X.K X.mg X.base x k sp) (hg : Gl X x := by rfl) (hd : (x == ("__debug__" : Str)) = false := by decide) : PE X (.Name x pos) (up X.K T W (dC (.opq (.ref (faOf X.mg x))))) := dx_ref Df.mgf hg hd
def dCallV (i : Nat) (cs : List (Addr × FS)) (s : DF) : DE := fun Xc δ Q => match δ[i]? with
  | some (.d (.opq (.ref a))) => ∃ S, (a, S) ∈ cs ∧ dCall S s Xc δ Q
  | _ => False
theorem dx_callV (i : Nat) {cs : List (Addr × FS)} (hcs : ∀ c ∈ cs, FnAt X T j c) (tk : Takes X W) (hr : Room j X.A) (ha : PA X (e :: es) (upA X.K T W s)) (hN : X.N[i]? = some x := by rfl) (hv : Vis X.env.scope x := by first | exact Or.inl rfl | exact Or.inr (Or.inl rfl) | exact Or.inr (Or.inr rfl)) (hd : (x == ("__debug__" : Str)) = false := by decide)
    (hcd : (x == ("__classdict__" : Str)) = false := by decide) (he : starEach (e :: es) X.env = (false, eval e X.env) :: starEach es X.env := by rfl) (hpl : (backTo pos (starEach es X.env)).any (·.1) = false := by rfl) :
    PE X (.Call (.Name x p) (e :: es) [] pos) (up X.K T W (dCallV i cs s)) := by
  refine ⟨fun pins st σ H Q I h => ?_⟩
  obtain ⟨F, G, δ, Xc, Qd, R, hq, hx, kk⟩ := h
  unfold dCallV at hq
  split at hq
  · rename_i a hj
    obtain ⟨S, hS, hq⟩ := hq
    obtain ⟨k', n, fd, ps, hk, Fn, kp, b, hn⟩ := (hcs _ hS).ex
    have hσ : σ[i]? = some (some (.ref a)) := by
      obtain ⟨v, h1, h2⟩ := R.dget hj
      rw [h1]
      exact congrArg (fun z => some (some z)) h2
    refine wpAny_Call_Name_kw (thn ((pe_var (pos := p) hN hv hd hcd).run pins st σ H (fun v H1 => v = .ref a ∧ H1 = H) I ⟨.ref a, hσ, rfl, rfl⟩) fun u s1 ⟨v, H1, I1, r1, q1⟩ => ?_)
    obtain ⟨rfl, rfl⟩ := q1
    cases r1
    have h2 : tCallS (spA X.K T n S) (WE W) (upA X.K T W s) σ H1 Q := up_call σ H1 Q ⟨F, G, δ, Xc, Qd, R, hq, hx, kk⟩ hn
    refine PySem.W.callWith_K (h₀ := X.base) I1.ok.mod.kin kp (thn (ha.run pos pins s1 σ _ _ I1 h2) fun us s2 ⟨vs, H2, I2, r, q⟩ => ⟨I2.kIn, ?_⟩) he hpl
    exact run_fnS Fn (hr.mono hk) b (passAt tk σ) I2 r q
  · exact hq.elim
/-- what a def does, whatever the addresses of the functions are -/
def sAllF (b : (Str → Addr) → DS) : DS := fun Dd δ => ∀ fa, b fa Dd δ
theorem dss_allF {st : List Stmt} {b : (Str → Addr) → DS} (fa : Str → Addr) (h : PSs X st (upS X.K T W (b fa))) : PSs X st (upS X.K T W (sAllF b)) := ⟨fun pins s σ H D I q => h.run pins s σ H D I (by
  obtain ⟨F, G, δ, Dd, R, hr, k⟩ := q
  exact ⟨F, G, δ, Dd, R, hr fa, k⟩)⟩
end
end DL


set_option Elab.async false
set_option linter.all false
set_option maxRecDepth 100000
set_option autoImplicit true
namespace DL
open PySem PySem.Spec PyProof.Rows L2
/-! ### {0: 1, ..}[x], keys and values written ints -/
def trI (kvs : List (Int × Int)) : List (TE × TE) := kvs.map fun kv => (tC (.int kv.1), tC (.int kv.2))
def kvI (kvs : List (Int × Int)) : List (Key × V) := kvs.map fun kv => (Sum.inl kv.1, V.int kv.2)
theorem pairsI : ∀ (kvs : List (Int × Int)) {σ : L2.St} {H : Hp} {Q : List (V × V) → Hp → Prop}, Q ((kvI kvs).map fun kv => (kV kv.1, kv.2)) H → tPairs (trI kvs) σ H Q
  | [], _, _, _, h => h
  | kv :: kvs, _, _, _, h => pairsI kvs h
def dDicI (kvs : List (Int × Int)) (ri : DE) : DE := fun Xc δ Q => ri Xc δ fun x δ1 => match x with
  | .int k => ∃ v, valV (mergeK [] (kvI kvs)) (Sum.inl k) = some (V.int v) ∧ Q (.int v) δ1
  | _ => False
section
variable {X : Cx} {T : List (Addr × Str)} {W : WX} {b : Expr} {ri : DE} {pos pos' : Pos}
theorem dx_dicI {kvs : List (Int × Int)} {keys : List (Option Expr)} {vals : List Expr} (hu : X.A.units + 1 < cLine) (hp : PPs X pos keys vals (trI kvs)) (hb : PE X b (up X.K T W ri)) (hl : kvs.length ≤ 15 := by decide) (hall : keys.all (·.isSome) = true := by rfl) (hlen : keys.length = vals.length := by rfl) (h0 : keys ≠ [] := by simp) (h15 : keys.length ≤ 15 := by simp) (hs : NoSl b := by exact fun _ _ => rfl) :
    PE X (.Subscript (.Dict keys vals pos) b pos') (up X.K T W (dDicI kvs ri)) := PEi (pe_dget hu (pe_disp hp hall hlen h0 h15) hb hs) fun σ H Q h => by
  obtain ⟨F, G, δ, Xc, Qd, R, hr, hx, k⟩ := h
  refine fun p hp => pairsI kvs ⟨upd_same, kvI kvs, rfl, by unfold kvI; rw [List.length_map]; exact hl, ?_⟩
  have ee : upd (upd H p (.dK [])) p (.dK (mergeK [] (kvI kvs))) = upd H p (.dK (mergeK [] (kvI kvs))) := L2.upd_upd
  rw [ee]
  obtain ⟨z1, z2⟩ := R.fresh_own (nT_no hp)
  have R0 : Rel X.K T F G (upd H p (.dK (mergeK [] (kvI kvs)))) σ δ := R.temp hp
  have hpp : (upd H p (HO.dK (mergeK [] (kvI kvs)))) p = some (.dK (mergeK [] (kvI kvs))) := upd_same
  have xk : ∀ {G1 : Hp}, Ex G G1 → XOk X.K T W (Fm.re G (upd H p (.dK (mergeK [] (kvI kvs)))) δ) G1 σ Xc := fun {G1} e G' H' δ' C e' R' q => hx G' H' δ' C (e.trans e') (R0.unbase R') q
  refine ⟨_, G, δ, Xc, _, R0.rebase, hr, xk (Ex.refl G), fun G1 H1 u kd δ1 e1 R1 p1 q1 => ?_⟩
  split at q1
  · rename_i key
    obtain rfl := p1
    obtain ⟨v, hv, q⟩ := q1
    have a1 : H1 p = some (.dK (mergeK [] (kvI kvs))) := R1.keep p _ z2 hpp (dK_nt _)
    refine ⟨p, V.int v, rfl, by rw [← hv]; exact DGet.k (k := Sum.inl key) a1, ?_⟩
    exact k G1 H1 (V.int v) (.int v) δ1 e1 (R0.unbase R1) rfl q
  · exact q1.elim
end
end DL


set_option Elab.async false
set_option linter.all false
set_option maxRecDepth 100000
set_option maxHeartbeats 1000000
local macro_rules | `(tactic| walk_at "dl") => `(tactic| try simp only [DL.sSkip, DL.sSeq, DL.sCut, DL.sSet, DL.sSetF, DL.sPar, DL.sPar3, DL.sAsg, DL.sDrop, DL.sRet, DL.sRetF, DL.sRetO, DL.sRetN, DL.sBreak, DL.sCont, DL.sIf, DL.sRaise, DL.sAug, DL.dC, DL.dVar, DL.dBin, DL.aNil, DL.aCons, DL.dTup, DL.fLst, DL.dF, DL.dCB, DL.fCB, DL.dCall, DL.fCall, DL.dCallO, DL.fCallO, DL.rvD, DL.rvF, DL.dChain, DL.dB, DL.dTru, DL.dAndT, DL.dOrT, DL.dNotT, DL.dAnd, DL.dOr, DL.dNot, DL.dIfE, DL.dNeg, DL.dIxO, DL.sApp, DL.sSetIx, DL.dSl, DL.fSlL, DL.oNone, DL.oSome, DL.fCatL, DL.fRepL, DL.endA, DL.endB, DL.argsD, DL.Rv.out, DL.dPeek, DL.dPeekT, DL.frz, DL.gN, DL.gT, DL.gLs, DL.iSeq, DL.iR1, DL.iR2, DL.wipeD, DL.backD, DL.keepD, DL.fLc, DL.sFor, DL.dDic0, DL.dIsT, DL.fIfE, DL.fRevL, DL.iR3, DL.dPop, DL.dPopAt, DL.sRev, DL.sExt, DL.sAugIx, DL.sSetH, DL.sSetH1, DL.dHGet, DL.dHIn, DL.sHPut, DL.dHGetD, DL.dHLen, DL.fHKeys, DL.sFz, DL.sFzH, DL.fRng1, DL.fRng2, DL.dTupRev, DL.dRevSl, DL.fRevSl, DL.iRevD, DL.iEnumD, DL.iEnumA, DL.iZipD, DL.sMPar, DL.r_shl, DL.r_shr, DL.setMx, DL.mNil, DL.mD, DL.mN, DL.nF, DL.nH0, DL.nH1, DL.Ct.sl, DL.sParDF, DL.sParFD, DL.sParFF, DL.sSetDc, DL.isB_int_d, DL.isB_bool_d, DL.isB_tuple_d, DL.isB_list_d, DL.isB_str_d, DL.isB_dict_d, DL.noq_d, DL.r_any_l, DL.r_any_t2, DL.r_any_s, DL.r_some_l, DL.r_some_t2, DL.r_some_s, DL.r_draw, DL.isB_int_q, DL.isB_bool_q, DL.isB_tuple_q, DL.isB_list_q, DL.isB_str_q, DL.isB_dict_q, DL.r_is_dn, DL.r_isnt_dn, ite_true, ite_false, if_true, if_false, List.any_cons, List.any_nil, Bool.or_false, Bool.false_or, Bool.true_or, Bool.or_true,
 
  DL.r_add_i, DL.r_add_s, DL.r_add_t, DL.r_sub, DL.r_mul, DL.r_mod, DL.r_div, DL.r_pow, DL.r_lt, DL.r_le, DL.r_gt, DL.r_ge, DL.r_augp, DL.r_augm, DL.r_eq_nn, DL.r_ne_nn, DL.r_eq_nb, DL.r_ne_nb, DL.r_eq_ni, DL.r_ne_ni, DL.r_eq_ns, DL.r_ne_ns, DL.r_eq_bn, DL.r_ne_bn, DL.r_eq_bb, DL.r_ne_bb, DL.r_eq_in, DL.r_ne_in, DL.r_eq_ii, DL.r_ne_ii, DL.r_eq_is, DL.r_ne_is, DL.r_eq_sn, DL.r_ne_sn, DL.r_eq_si, DL.r_ne_si, DL.r_eq_ss, DL.r_ne_ss, DL.r_eq_ll, DL.r_ne_ll, DL.r_eq_lt, DL.r_ne_lt, DL.r_eq_ln, DL.r_ne_ln, DL.r_eq_li, DL.r_ne_li, DL.r_eq_ls, DL.r_ne_ls, DL.r_eq_lb, DL.r_ne_lb, DL.r_eq_nl2, DL.r_ne_nl2, DL.r_eq_il2, DL.r_ne_il2, DL.r_eq_sl2, DL.r_ne_sl2, DL.r_eq_bl2, DL.r_ne_bl2, DL.r_eq_tl, DL.r_ne_tl, DL.r_eq_tt, DL.r_ne_tt, DL.r_eq_tn, DL.r_ne_tn, DL.r_eq_ti, DL.r_ne_ti, DL.r_eq_ts, DL.r_ne_ts, DL.r_eq_tb, DL.r_ne_tb, DL.r_eq_nt2, DL.r_ne_nt2, DL.r_eq_it2, DL.r_ne_it2, DL.r_eq_st2, DL.r_ne_st2, DL.r_eq_bt2, DL.r_ne_bt2, DL.r_is_bb, DL.r_isnt_bb, DL.r_is_nn, DL.r_isnt_nn, DL.r_is_in, DL.r_isnt_in, DL.r_is_sn, DL.r_isnt_sn, DL.r_is_ln, DL.r_isnt_ln, DL.r_is_tn, DL.r_isnt_tn, DL.r_is_bn, DL.r_isnt_bn, DL.r_ix_l, DL.r_ix_t, DL.at0, DL.at1, DL.at2, DL.at3, DL.at4, DL.ixn10, DL.ixn20, DL.ixn21, DL.ixn30, DL.ixn31, DL.ixn32, DL.ixn40, DL.ixn41, DL.ixn42, DL.ixn43, DL.ixn50, DL.ixn51, DL.ixn52, DL.ixn53, DL.ixn54, DL.r_sl_t, DL.r_sl_l, DL.r_sl_q, DL.r_len_l, DL.r_len_t, DL.r_len_s, DL.r_abs, DL.r_int_i, DL.r_int_b, DL.r_max2, DL.r_min2, DL.r_sum, DL.r_any, DL.r_all, DL.r_tuple_l, DL.r_tuple_t, DL.r_list_l, DL.r_list_t, DL.r_isi, DL.noq_n, DL.noq_b, DL.noq_i, DL.noq_s, DL.noq_l, DL.noq_t, DL.noq_q, DL.tru_n, DL.tru_b, DL.tru_i, DL.tru_l, DL.tru_t, DL.isB_int_n, DL.isB_int_b, DL.isB_int_i, DL.isB_int_s, DL.isB_int_l, DL.isB_int_t, DL.isB_bool_n, DL.isB_bool_b, DL.isB_bool_i, DL.isB_bool_s, DL.isB_bool_l, DL.isB_bool_t, DL.isB_tuple_n, DL.isB_tuple_b, DL.isB_tuple_i, DL.isB_tuple_s, DL.isB_tuple_l, DL.isB_tuple_t, DL.isB_list_n, DL.isB_list_b, DL.isB_list_i, DL.isB_list_s, DL.isB_list_l, DL.isB_list_t, DL.isB_str_n, DL.isB_str_b, DL.isB_str_i, DL.isB_str_s, DL.isB_str_l, DL.isB_str_t, DL.isB_dict_n, DL.isB_dict_b, DL.isB_dict_i, DL.isB_dict_s, DL.isB_dict_l, DL.isB_dict_t,
  List.map_cons, List.map_nil, List.length_cons, List.length_nil, List.cons_append, List.nil_append, List.replicate_succ, List.replicate_zero, Nat.sub_self, Nat.add_one_sub_one, Nat.zero_add, Nat.reduceAdd, Nat.reduceSub, Int.cast_ofNat_Int, List.getElem?_cons_zero, List.getElem?_cons_succ, List.set_cons_zero, List.set_cons_succ, true_and, and_true, decide_eq_true_eq, decide_eq_false_iff_not, forall_const, false_implies, true_implies, reduceCtorEq, implies_true, Bool.true_eq_false, Bool.false_eq_true, Bool.not_true, Bool.not_false, Bool.not_eq_true', Bool.not_eq_false', bne_self_eq_false, beq_self_eq_true, Option.some.injEq, exists_eq_left', exists_eq_left, ne_eq, not_false_eq_true, not_true_eq_false])
namespace DL
open PySem PySem.Spec PyProof.Rows L2
def rd__law_is (rn : Nat) : DS := (sSeq (sIf (dOrT (dB (dBin fIs (dVar 1) (dC .non))) (dB (dBin fIs (dVar 0) (dC .non)))) (sRet (dAnd (dBin fIs (dVar 1) (dC .non)) (dBin fIs (dVar 0) (dC .non)))) sSkip)
  (sSeq (sIf (dB (dIsT ["tuple", "list"] (dVar 1))) (sSeq (sIf (dOrT (dB (dBin fNe (dCB (gIsi "tuple") (aCons (dVar 0) (aCons (dC (.opq (.ty "tuple"))) aNil))) (dCB (gIsi "tuple") (aCons (dVar 1) (aCons (dC (.opq (.ty "tuple"))) aNil))))) (dB (dBin fNe (dCB (gIsi "list") (aCons (dVar 0) (aCons (dC (.opq (.ty "list"))) aNil))) (dCB (gIsi "list") (aCons (dVar 1) (aCons (dC (.opq (.ty "list"))) aNil)))))) (sRet (dC (.bl false))) sSkip)
  (sRet (dAnd (dBin fEq (dCB gLen (aCons (dVar 0) aNil)) (dCB gLen (aCons (dVar 1) aNil))) (dCB gAll (aCons (dF (fLc (iZipD (aCons (dVar 0) (aCons (dVar 1) aNil))) (gT [2, 3]) tYesD (dCall (S__law_is rn) (aCons (dVar 2) (aCons (dVar 3) aNil))) [2, 3])) aNil))))) sSkip)
  (sSeq (sIf (dOrT (dB (dBin fNe (dCB (gIsi "bool") (aCons (dVar 0) (aCons (dC (.opq (.ty "bool"))) aNil))) (dCB (gIsi "bool") (aCons (dVar 1) (aCons (dC (.opq (.ty "bool"))) aNil))))) (dB (dBin fNe (dCB (gIsi "int") (aCons (dVar 0) (aCons (dC (.opq (.ty "int"))) aNil))) (dCB (gIsi "int") (aCons (dVar 1) (aCons (dC (.opq (.ty "int"))) aNil)))))) (sRet (dC (.bl false))) sSkip)
  (sRet (dAnd (dBin fEq (dCB (gIsi "str") (aCons (dVar 0) (aCons (dC (.opq (.ty "str"))) aNil))) (dCB (gIsi "str") (aCons (dVar 1) (aCons (dC (.opq (.ty "str"))) aNil)))) (dBin fEq (dVar 0) (dVar 1)))))))
theorem hd__law_is (rn : Nat) (ds : List D) (Qd : Rf → Prop) (Ed : Addr → Prop) (hn : ds.length = 2) (h : S__law_is (rn + 1) ds Qd Ed) : rd__law_is rn (endA Qd Ed) (argsD 4 ds) := by
  have hx : ∃ x, ds = [x, x] ∧ isP rn x = true ∧ Qd (.d (.bl true)) := by
    match ds, hn, h with
    | [x, y], _, h => obtain ⟨rfl, h1, h2⟩ := h; exact ⟨x, rfl, h1, h2⟩
  obtain ⟨x, rfl, hp, q⟩ := hx
  clear h hn
  generalize rn = n at hp ⊢
  · unfold rd__law_is
    have seq : ∀ xs : List D, ((decide (xs.length ≤ sizeLine) && xs.all (isP (n - 1))) = true) → (∀ x, x ∈ xs → n ≠ 0) → ∀ {δ1 : Ev} {Q : List D → Ev → Prop} {vs : List Nat} {i j : Nat}, Q ((zipD xs xs).map fun _ => D.bl true) (backD δ1 (wipeD δ1 vs) vs) → (∀ x ∈ xs, ∀ P : D → Ev → Prop, (∀ δ5, wipeD δ5 vs = wipeD δ1 vs → P (.bl true) δ5) → gT [i, j] (.tup [x, x]) (wipeD δ1 vs) fun δ3 => dCall (S__law_is n) (aCons (dVar i) (aCons (dVar j) aNil)) (fun _ _ => False) δ3 P) →
        lcG (zipD xs xs) (gT [i, j]) tYesD (dCall (S__law_is n) (aCons (dVar i) (aCons (dVar j) aNil))) vs δ1 Q := fun xs h1 h2 {δ1 Q vs i j} hq hb => by
      rw [Bool.and_eq_true, decide_eq_true_eq] at h1
      refine lc_map (fun _ => D.bl true) rfl (by unfold zipD; rw [List.length_zipWith]; omega) (fun x P hx hP => ?_) hq
      obtain ⟨a, ha, rfl⟩ := mem_zip_self hx
      exact hb a ha P hP
    have fin : ∀ xs : List D, ∃ bs : List Bool, ((zipD xs xs).map fun _ => D.bl true) = bs.map D.bl ∧ bs.all id = true := fun xs => ⟨(zipD xs xs).map fun _ => true, by rw [List.map_map]; rfl, by rw [List.all_map]; simp⟩
    have sq : ∀ xs : List D, isP n (.tup xs) = true → ((decide (xs.length ≤ sizeLine) && xs.all (isP (n - 1))) = true) ∧ n ≠ 0 := fun xs h => by
      cases n with
      | zero => exact absurd (show false = true from h) (by decide)
      | succ n => exact ⟨h, by omega⟩
    have el : ∀ (xs : List D), isP n (.tup xs) = true → ∀ x ∈ xs, ∀ (R : Rf → Prop) (E2 : Addr → Prop), R (.d (.bl true)) → S__law_is n [x, x] R E2 := fun xs h x hx R E2 hr => by
      cases n with
      | zero => exact absurd (show false = true from h) (by decide)
      | succ n =>
        have h : (decide (xs.length ≤ sizeLine) && xs.all (isP n)) = true := h
        rw [Bool.and_eq_true] at h
        exact ⟨rfl, List.all_eq_true.mp h.2 x hx, hr⟩
    cases x
    case sq xs => exact absurd hp (by cases n <;> simp [isP])
    case dic ks vs => exact absurd hp (by cases n <;> simp [isP])
    case opq v => exact absurd hp (by cases n <;> simp [isP])
    case lst xs =>
      have hp : isP n (.tup xs) = true := by cases n <;> exact hp
      walk_at "dl"
      refine seq xs (sq xs hp).1 (fun _ _ => (sq xs hp).2) ?_ fun x hx P hP => ?_
      · walk_at "dl"
        obtain ⟨bs, e1, e2⟩ := fin xs
        refine ⟨bs, e1, ?_⟩
        rw [e2]; exact q
      · walk_at "dl"
        exact el xs hp x hx _ _ (hP _ rfl)
    case tup xs =>
      walk_at "dl"
      refine seq xs (sq xs hp).1 (fun _ _ => (sq xs hp).2) ?_ fun x hx P hP => ?_
      · walk_at "dl"
        obtain ⟨bs, e1, e2⟩ := fin xs
        refine ⟨bs, e1, ?_⟩
        rw [e2]; exact q
      · walk_at "dl"
        exact el xs hp x hx _ _ (hP _ rfl)
    all_goals (walk_at "dl"; exact q)
end DL


set_option Elab.async false
set_option linter.all false
set_option maxRecDepth 100000
namespace K36
open PySem PySem.Spec PyProof.Rows L2 DL
def topS (i : Nat) : Stmt := PySem.Challenge.pw_nextterms_k36_whole_primes_in_products.main.body.getD i (.Pass ⟨0, 0, 0, 0⟩)
structure ErrD (K : PySem.W.Frag) (mg : Str → Option Value) (x : Str) (C : Addr) : Prop where
  g : mg x = some (.ref C)
structure Txt (K : PySem.W.Frag) (mg : Str → Option Value) (cBadBase : Addr) (cBadDigits : Addr) (cBadNumber : Addr) (cBadSteps : Addr) (cBadWay : Addr) (cOtherBase : Addr) (cBadReader : Addr) (cTooMany : Addr) : Prop where
  z_ValueError : mg "ValueError" = none
  z_abs : mg "abs" = none
  z_all : mg "all" = none
  z_bool : mg "bool" = none
  z_int : mg "int" = none
  z_isinstance : mg "isinstance" = none
  z_len : mg "len" = none
  z_list : mg "list" = none
  z_max : mg "max" = none
  z_min : mg "min" = none
  z_range : mg "range" = none
  z_reversed : mg "reversed" = none
  z_str : mg "str" = none
  z_sum : mg "sum" = none
  z_tuple : mg "tuple" = none
  z_zip : mg "zip" = none
  k_MOST_NUMBER : ∃ t, mg "MOST_NUMBER" = some (.int 1000000000000000000000000000000000000000000000000000000000000 t)
  k_MOST_PRIME : ∃ t, mg "MOST_PRIME" = some (.int 1000000 t)
  e_BadBase : ErrC K mg "BadBase" cBadBase
  e_BadDigits : ErrC K mg "BadDigits" cBadDigits
  e_BadNumber : ErrC K mg "BadNumber" cBadNumber
  e_BadSteps : ErrC K mg "BadSteps" cBadSteps
  e_BadWay : ErrC K mg "BadWay" cBadWay
  e_OtherBase : ErrC K mg "OtherBase" cOtherBase
  e_BadReader : ErrD K mg "BadReader" cBadReader
  e_TooMany : ErrD K mg "TooMany" cTooMany
end K36


set_option Elab.async false
set_option linter.all false
set_option maxRecDepth 100000
set_option maxHeartbeats 4000000
set_option autoImplicit true
namespace K36
/-! choices -/
def ch : Nat → Nat → Nat
  | _, 0 => 1
  | 0, _ + 1 => 0
  | n + 1, k + 1 => ch n k + ch n (k + 1)
theorem ch_zero (n : Nat) : ch n 0 = 1 := by cases n <;> rfl
theorem ch_succ (n k : Nat) : ch (n + 1) (k + 1) = ch n k + ch n (k + 1) := rfl
theorem ch_gt : ∀ n k, n < k → ch n k = 0
  | 0, k + 1, _ => rfl
  | n + 1, k + 1, h => by rw [ch_succ, ch_gt n k (by omega), ch_gt n (k + 1) (by omega)]
theorem ch_self : ∀ n, ch n n = 1
  | 0 => rfl
  | n + 1 => by rw [ch_succ, ch_self n, ch_gt n (n + 1) (by omega)]
/-- the next one by the one ahead -/
theorem ch_next : ∀ n k, ch n (k + 1) * (k + 1) = ch n k * (n - k)
  | 0, 0 => rfl
  | 0, k + 1 => by
    show 0 * _ = 0 * _
    rw [Nat.zero_mul, Nat.zero_mul]
  | n + 1, 0 => by
    have h := ch_next n 0
    rw [ch_succ, ch_zero, ch_zero]
    rw [ch_zero] at h
    simp only [Nat.zero_add, Nat.mul_one, Nat.sub_zero, Nat.one_mul] at h ⊢
    omega
  | n + 1, k + 1 => by
    have h1 := ch_next n k
    have h2 := ch_next n (k + 1)
    rw [ch_succ, ch_succ]
    by_cases c : k + 1 ≤ n
    · have e1 : n - k = (n - (k + 1)) + 1 := by omega
      have e2 : n + 1 - (k + 1) = (n - (k + 1)) + 1 := by omega
      rw [e1] at h1
      rw [e2]
      generalize n - (k + 1) = d at *
      generalize ch n k = x at *
      generalize ch n (k + 1) = y at *
      generalize ch n (k + 1 + 1) = z at *
      grind
    · by_cases c2 : n = k
      · subst c2
        rw [ch_gt n (n + 1) (by omega), ch_gt n (n + 1 + 1) (by omega), Nat.sub_self]
        simp
      · rw [ch_gt n (k + 1) (by omega), ch_gt n (k + 1 + 1) (by omega), ch_gt n k (by omega)]
        simp
theorem ch_sym : ∀ n k, k ≤ n → ch n (n - k) = ch n k
  | 0, k, h => by
    have : k = 0 := by omega
    subst this; rfl
  | n + 1, 0, _ => by rw [Nat.sub_zero, ch_self, ch_zero]
  | n + 1, k + 1, h => by
    by_cases e : k = n
    · subst e
      rw [Nat.sub_self, ch_zero, ch_self]
    · rw [show n + 1 - (k + 1) = (n - (k + 1)) + 1 by omega, ch_succ, ch_succ, show n - (k + 1) + 1 = n - k by omega, ch_sym n k (by omega), ch_sym n (k + 1) (by omega)]
      omega
def fact : Nat → Nat
  | 0 => 1
  | n + 1 => (n + 1) * fact n
def fall (n : Nat) : Nat → Nat
  | 0 => 1
  | k + 1 => fall n k * (n - k)
theorem ch_fall (n : Nat) : ∀ k, ch n k * fact k = fall n k
  | 0 => by rw [ch_zero]; rfl
  | k + 1 => by
    have h1 := ch_next n k
    have h2 := ch_fall n k
    show ch n (k + 1) * ((k + 1) * fact k) = fall n k * (n - k)
    rw [← h2, ← Nat.mul_assoc, h1, Nat.mul_assoc, Nat.mul_assoc, Nat.mul_comm (n - k)]
/-- p's lesser ones have no part in common with it -/
def Pr (p : Nat) : Prop := 2 ≤ p ∧ ∀ a, 1 ≤ a → a < p → Nat.Coprime a p
theorem Pr.cfact {p : Nat} (h : Pr p) : ∀ k, k < p → Nat.Coprime (fact k) p
  | 0, _ => Nat.coprime_one_left p
  | k + 1, hk => Nat.Coprime.mul_left (h.2 (k + 1) (by omega) hk) (h.cfact k (by omega))
theorem Pr.cfall {p n : Nat} (h : Pr p) (hn : n < p) : ∀ k, k ≤ n → Nat.Coprime (fall n k) p
  | 0, _ => Nat.coprime_one_left p
  | k + 1, hk => Nat.Coprime.mul_left (h.cfall hn k (by omega)) (h.2 (n - k) (by omega) (by omega))
theorem Pr.cch {p n k : Nat} (h : Pr p) (hn : n < p) (hk : k ≤ n) : Nat.Coprime (ch n k) p :=
  Nat.Coprime.coprime_mul_right (k := fact k) (by rw [ch_fall]; exact h.cfall hn k hk)
theorem Pr.not_dvd {p x : Nat} (h : Pr p) (hx : Nat.Coprime x p) : x % p ≠ 0 := fun e => by
  have h1 := Nat.Coprime.eq_one_of_dvd hx.symm (Nat.dvd_of_mod_eq_zero e)
  have := h.1
  omega
/-- p divides its own choices -/
theorem Pr.own {p k : Nat} (h : Pr p) (h1 : 1 ≤ k) (hk : k < p) : ch p k % p = 0 := by
  obtain ⟨j, rfl⟩ : ∃ j, k = j + 1 := ⟨k - 1, by omega⟩
  obtain ⟨q, rfl⟩ : ∃ q, p = q + 1 := ⟨p - 1, by omega⟩
  have a1 : ch (q + 1) (j + 1) * (j + 1) = (q + 1) * ch q j := by
    have h1 := ch_next q j
    rw [ch_succ, Nat.add_mul, h1]
    have e : (q + 1) = (j + 1) + (q - j) := by omega
    conv => rhs; rw [e, Nat.add_mul]
    rw [Nat.mul_comm (ch q j), Nat.mul_comm (ch q j)]
  have d : (q + 1) ∣ ch (q + 1) (j + 1) * (j + 1) := ⟨ch q j, a1⟩
  exact Nat.mod_eq_zero_of_dvd (Nat.Coprime.dvd_of_dvd_mul_right (h.2 (j + 1) h1 hk).symm d)
/-! the product by digits -/
def lu (p : Nat) : Nat → Nat → Nat → Nat
  | 0, _, _ => 1
  | f + 1, n, k => if n = 0 ∧ k = 0 then 1 else ch (n % p) (k % p) * lu p f (n / p) (k / p)
theorem lu_more {p : Nat} (hp : 2 ≤ p) : ∀ f g n k, n + k ≤ f → n + k ≤ g → lu p f n k = lu p g n k
  | 0, g, n, k, h1, _ => by
    have e : n = 0 ∧ k = 0 := by omega
    cases g with
    | zero => rfl
    | succ g => show 1 = (if n = 0 ∧ k = 0 then 1 else _); rw [if_pos e]
  | f + 1, 0, n, k, _, h2 => by
    have e : n = 0 ∧ k = 0 := by omega
    show (if n = 0 ∧ k = 0 then 1 else _) = 1
    rw [if_pos e]
  | f + 1, g + 1, n, k, h1, h2 => by
    show (if n = 0 ∧ k = 0 then 1 else ch (n % p) (k % p) * lu p f (n / p) (k / p)) = (if n = 0 ∧ k = 0 then 1 else ch (n % p) (k % p) * lu p g (n / p) (k / p))
    by_cases e : n = 0 ∧ k = 0
    · rw [if_pos e, if_pos e]
    · have d1 : n / p ≤ n / 2 := Nat.div_le_div_left hp (by decide)
      have d2 : k / p ≤ k / 2 := Nat.div_le_div_left hp (by decide)
      rw [if_neg e, if_neg e, lu_more hp f g (n / p) (k / p) (by omega) (by omega)]
def L (p n k : Nat) : Nat := lu p (n + k) n k
theorem L_zero (p : Nat) : L p 0 0 = 1 := rfl
theorem L_step {p : Nat} (hp : 2 ≤ p) (n k : Nat) : L p n k = ch (n % p) (k % p) * L p (n / p) (k / p) := by
  by_cases e : n = 0 ∧ k = 0
  · obtain ⟨rfl, rfl⟩ := e
    rw [Nat.zero_mod, Nat.zero_div]; rfl
  · unfold L
    obtain ⟨f, ef⟩ : ∃ f, n + k = f + 1 := ⟨n + k - 1, by omega⟩
    have d1 : n / p ≤ n / 2 := Nat.div_le_div_left hp (by decide)
    have d2 : k / p ≤ k / 2 := Nat.div_le_div_left hp (by decide)
    rw [ef]
    show (if n = 0 ∧ k = 0 then 1 else ch (n % p) (k % p) * lu p f (n / p) (k / p)) = _
    rw [if_neg e, lu_more hp f (n / p + k / p) _ _ (by omega) (Nat.le_refl _)]
theorem L_ind {p : Nat} (hp : 2 ≤ p) {P : Nat → Nat → Prop} (h0 : P 0 0) (h : ∀ n k, ¬ (n = 0 ∧ k = 0) → P (n / p) (k / p) → P n k) : ∀ n k, P n k := by
  have : ∀ s n k, n + k ≤ s → P n k := by
    intro s
    induction s with
    | zero =>
      intro n k hs
      obtain ⟨rfl, rfl⟩ : n = 0 ∧ k = 0 := by omega
      exact h0
    | succ s ih =>
      intro n k hs
      by_cases e : n = 0 ∧ k = 0
      · obtain ⟨rfl, rfl⟩ := e; exact h0
      · have d1 : n / p ≤ n / 2 := Nat.div_le_div_left hp (by decide)
        have d2 : k / p ≤ k / 2 := Nat.div_le_div_left hp (by decide)
        exact h n k e (ih _ _ (by omega))
  exact fun n k => this _ n k (Nat.le_refl _)
/-- the row turned about -/
theorem L_sym {p : Nat} (hp : 2 ≤ p) : ∀ n k, k ≤ n → L p n (n - k) = L p n k := by
  refine L_ind hp (P := fun n k => k ≤ n → L p n (n - k) = L p n k) (fun _ => rfl) (fun n k _ ih hk => ?_)
  have en := Nat.div_add_mod n p
  have ek := Nat.div_add_mod k p
  have mn := Nat.mod_lt n (show 0 < p by omega)
  have mk := Nat.mod_lt k (show 0 < p by omega)
  have dk : k / p ≤ n / p := Nat.div_le_div_right hk
  by_cases c : k % p ≤ n % p
  · have e1 : (n - k) % p = n % p - k % p ∧ (n - k) / p = n / p - k / p := by
      have e : n - k = (n % p - k % p) + p * (n / p - k / p) := by
        rw [Nat.mul_sub]
        have := Nat.mul_le_mul_left p dk
        omega
      rw [e, Nat.add_mul_mod_self_left, Nat.add_mul_div_left _ _ (by omega), Nat.mod_eq_of_lt (by omega), Nat.div_eq_of_lt (by omega), Nat.zero_add]
      exact ⟨rfl, rfl⟩
    rw [L_step hp n (n - k), L_step hp n k, e1.1, e1.2, ch_sym _ _ c, ih dk]
  · have dk2 : k / p < n / p := by
      rcases Nat.lt_or_ge (k / p) (n / p) with z | z
      · exact z
      · have := Nat.mul_le_mul_left p z
        omega
    have e1 : (n - k) % p = n % p + p - k % p := by
      have e : n - k = (n % p + p - k % p) + p * (n / p - k / p - 1) := by
        rw [Nat.mul_sub, Nat.mul_sub, Nat.mul_one]
        have := Nat.mul_le_mul_left p (show k / p + 1 ≤ n / p by omega)
        rw [Nat.mul_add, Nat.mul_one] at this
        omega
      rw [e, Nat.add_mul_mod_self_left, Nat.mod_eq_of_lt (by omega)]
    rw [L_step hp n (n - k), L_step hp n k, e1, ch_gt _ _ (show n % p < n % p + p - k % p by omega), ch_gt _ _ (show n % p < k % p by omega), Nat.zero_mul, Nat.zero_mul]
/-- a unit or nothing -/
theorem L_unit {p : Nat} (h : Pr p) : ∀ n k, L p n k = 0 ∨ Nat.Coprime (L p n k) p := by
  refine L_ind h.1 (.inr (Nat.coprime_one_left p)) (fun n k _ ih => ?_)
  rw [L_step h.1]
  have mn := Nat.mod_lt n (show 0 < p by have := h.1; omega)
  by_cases c : k % p ≤ n % p
  · rcases ih with z | z
    · left; rw [z, Nat.mul_zero]
    · right; exact Nat.Coprime.mul_left (h.cch mn c) z
  · left; rw [ch_gt _ _ (by omega), Nat.zero_mul]
theorem L_mod {p n k : Nat} (h : Pr p) : L p n k % p = 0 ↔ L p n k = 0 := by
  rcases L_unit h n k with z | z
  · rw [z, Nat.zero_mod]
  · have := h.not_dvd z
    exact ⟨fun e => absurd e this, fun e => by rw [e, Nat.zero_mod]⟩
theorem L_k0 {p : Nat} (hp : 2 ≤ p) : ∀ n, L p n 0 = 1 := by
  have := L_ind hp (P := fun n k => k = 0 → L p n k = 1) (fun _ => rfl) (fun n k _ ih hk => by
    subst hk
    rw [L_step hp, Nat.zero_mod, ch_zero, ih (Nat.zero_div p)])
  exact fun n => this n 0 rfl
theorem L_n0 {p : Nat} (hp : 2 ≤ p) (k : Nat) (hk : k ≠ 0) : L p 0 k = 0 := by
  have := L_ind hp (P := fun n k => n = 0 → k ≠ 0 → L p n k = 0) (fun _ z => absurd rfl z) (fun n k _ ih hn hk => by
    subst hn
    rw [L_step hp, Nat.zero_mod]
    by_cases c : k % p = 0
    · rw [ih (Nat.zero_div p) (fun z => hk (by have := Nat.div_add_mod k p; rw [z, c] at this; omega)), Nat.mul_zero]
    · rw [ch_gt 0 (k % p) (by omega), Nat.zero_mul])
  exact this 0 k rfl hk
theorem ch_pos : ∀ n k, k ≤ n → 0 < ch n k
  | n, 0, _ => by rw [ch_zero]; exact Nat.one_pos
  | n + 1, k + 1, h => by rw [ch_succ]; have := ch_pos n k (by omega); omega
theorem succ_dm {p : Nat} (hp : 2 ≤ p) (n : Nat) : (n % p < p - 1 ∧ (n + 1) % p = n % p + 1 ∧ (n + 1) / p = n / p) ∨ (n % p = p - 1 ∧ (n + 1) % p = 0 ∧ (n + 1) / p = n / p + 1) := by
  have mn := Nat.mod_lt n (show 0 < p by omega)
  have en := Nat.div_add_mod n p
  by_cases c : n % p < p - 1
  · left
    refine ⟨c, ?_⟩
    have e : n + 1 = (n % p + 1) + p * (n / p) := by omega
    rw [e, Nat.add_mul_mod_self_left, Nat.add_mul_div_left _ _ (by omega), Nat.mod_eq_of_lt (by omega), Nat.div_eq_of_lt (show n % p + 1 < p by omega), Nat.zero_add]
    exact ⟨rfl, rfl⟩
  · right
    refine ⟨by omega, ?_⟩
    have e : n + 1 = p * (n / p + 1) := by rw [Nat.mul_add]; omega
    rw [e, Nat.mul_mod_right, Nat.mul_div_cancel_left _ (by omega)]
    exact ⟨rfl, rfl⟩
theorem L_pascal {p : Nat} (h : Pr p) : ∀ n k, L p (n + 1) (k + 1) % p = (L p n (k + 1) + L p n k) % p := by
  have hp := h.1
  have step : ∀ n k, (n % p = p - 1 → k % p = p - 1 → L p (n / p + 1) (k / p + 1) % p = (L p (n / p) (k / p + 1) + L p (n / p) (k / p)) % p) → L p (n + 1) (k + 1) % p = (L p n (k + 1) + L p n k) % p := fun n k ih => by
    rw [L_step hp (n + 1) (k + 1), L_step hp n (k + 1), L_step hp n k]
    rcases succ_dm hp n with ⟨n1, n2, n3⟩ | ⟨n1, n2, n3⟩ <;> rcases succ_dm hp k with ⟨k1, k2, k3⟩ | ⟨k1, k2, k3⟩ <;> rw [n2, n3, k2, k3]
    · rw [ch_succ, Nat.add_mul, Nat.add_comm]
    · rw [ch_zero, ch_zero, ch_gt (n % p) (k % p) (by omega)]
      simp only [Nat.zero_mul, Nat.add_zero]
    · rw [ch_gt 0 (k % p + 1) (by omega), Nat.zero_mul, ← Nat.add_mul, n1]
      have e : ch (p - 1) (k % p + 1) + ch (p - 1) (k % p) = ch p (k % p + 1) := by
        obtain ⟨q, rfl⟩ : ∃ q, p = q + 1 := ⟨p - 1, by omega⟩
        rw [ch_succ]
        exact Nat.add_comm ..
      rw [e, Nat.mul_mod, h.own (by omega) (by omega), Nat.zero_mul]
    · rw [ch_zero, ch_zero, Nat.one_mul, Nat.one_mul, n1, k1, ch_self, Nat.one_mul]
      exact ih n1 k1
  exact L_ind hp (step 0 0 fun z => by rw [Nat.zero_mod] at z; omega) fun n k _ ih => step n k fun _ _ => ih
/-- the product by digits is the choice, but for p's times -/
theorem lucas {p : Nat} (h : Pr p) : ∀ n k, L p n k % p = ch n k % p
  | 0, 0 => rfl
  | 0, k + 1 => by rw [L_n0 h.1 (k + 1) (by omega)]; rfl
  | n + 1, 0 => by rw [L_k0 h.1, ch_zero]
  | n + 1, k + 1 => by
    rw [L_pascal h, Nat.add_mod, lucas h n (k + 1), lucas h n k, ← Nat.add_mod, ch_succ, Nat.add_comm]
/-! carries -/
def cr (p : Nat) : Nat → Nat → Nat → Nat → List Nat
  | 0, _, _, _ => []
  | f + 1, a, b, c => if a = 0 ∧ b = 0 ∧ c = 0 then [] else (if p ≤ a % p + b % p + c then 1 else 0) :: cr p f (a / p) (b / p) (if p ≤ a % p + b % p + c then 1 else 0)
theorem cr_down {p a b c : Nat} (hp : 2 ≤ p) (h : ¬ (a = 0 ∧ b = 0 ∧ c = 0)) : a / p + b / p + (if p ≤ a % p + b % p + c then 1 else 0) < a + b + c := by
  have ea := Nat.div_add_mod a p
  have eb := Nat.div_add_mod b p
  have ma : 2 * (a / p) ≤ p * (a / p) := Nat.mul_le_mul_right _ hp
  have mb : 2 * (b / p) ≤ p * (b / p) := Nat.mul_le_mul_right _ hp
  split
  · omega
  · have da : a / p ≤ a / 2 := Nat.div_le_div_left hp (by decide)
    have db : b / p ≤ b / 2 := Nat.div_le_div_left hp (by decide)
    omega
theorem cr_more {p : Nat} (hp : 2 ≤ p) : ∀ f g a b c, a + b + c ≤ f → a + b + c ≤ g → cr p f a b c = cr p g a b c
  | 0, g, a, b, c, h1, _ => by
    have e : a = 0 ∧ b = 0 ∧ c = 0 := by omega
    cases g with
    | zero => rfl
    | succ g => show [] = (if a = 0 ∧ b = 0 ∧ c = 0 then [] else _); rw [if_pos e]
  | f + 1, 0, a, b, c, _, h2 => by
    have e : a = 0 ∧ b = 0 ∧ c = 0 := by omega
    show (if a = 0 ∧ b = 0 ∧ c = 0 then [] else _) = []
    rw [if_pos e]
  | f + 1, g + 1, a, b, c, h1, h2 => by
    by_cases e : a = 0 ∧ b = 0 ∧ c = 0
    · show (if a = 0 ∧ b = 0 ∧ c = 0 then [] else _) = (if a = 0 ∧ b = 0 ∧ c = 0 then [] else _)
      rw [if_pos e, if_pos e]
    · have d := cr_down hp e
      show (if a = 0 ∧ b = 0 ∧ c = 0 then [] else _ :: cr p f _ _ _) = (if a = 0 ∧ b = 0 ∧ c = 0 then [] else _ :: cr p g _ _ _)
      rw [if_neg e, if_neg e, cr_more hp f g _ _ _ (by omega) (by omega)]
def crs (p a b c : Nat) : List Nat := cr p (a + b + c) a b c
theorem crs_zero (p : Nat) : crs p 0 0 0 = [] := rfl
theorem crs_step {p a b c : Nat} (hp : 2 ≤ p) (h : ¬ (a = 0 ∧ b = 0 ∧ c = 0)) : crs p a b c = (if p ≤ a % p + b % p + c then 1 else 0) :: crs p (a / p) (b / p) (if p ≤ a % p + b % p + c then 1 else 0) := by
  have d := cr_down hp h
  unfold crs
  obtain ⟨f, ef⟩ : ∃ f, a + b + c = f + 1 := ⟨a + b + c - 1, by omega⟩
  rw [ef]
  show (if a = 0 ∧ b = 0 ∧ c = 0 then [] else _ :: cr p f _ _ _) = _
  rw [if_neg h, cr_more hp f _ _ _ _ (by omega) (Nat.le_refl _)]
theorem crs_len {p : Nat} (hp : 2 ≤ p) : ∀ (k a b c : Nat), a < 2 ^ k → b < 2 ^ k → c ≤ 1 → (crs p a b c).length ≤ k + 1
  | 0, a, b, c, ha, hb, hc => by
    have e1 : a = 0 := by omega
    have e2 : b = 0 := by omega
    subst e1; subst e2
    by_cases e : c = 0
    · subst e; rw [crs_zero]; simp
    · rw [crs_step hp (by omega), Nat.zero_mod, Nat.zero_div, if_neg (by omega), crs_zero]; simp
  | k + 1, a, b, c, ha, hb, hc => by
    by_cases e : a = 0 ∧ b = 0 ∧ c = 0
    · obtain ⟨rfl, rfl, rfl⟩ := e
      rw [crs_zero]; simp
    · have da : a / p ≤ a / 2 := Nat.div_le_div_left hp (by decide)
      have db : b / p ≤ b / 2 := Nat.div_le_div_left hp (by decide)
      rw [Nat.pow_succ] at ha hb
      rw [crs_step hp e, List.length_cons]
      have := crs_len hp k (a / p) (b / p) (if p ≤ a % p + b % p + c then 1 else 0) (by omega) (by omega) (by split <;> omega)
      omega
theorem crs_L {p : Nat} (h : Pr p) : ∀ (s a b : Nat), a + b ≤ s → ((crs p a b 0).sum = 0 ↔ L p (a + b) a ≠ 0)
  | 0, a, b, hs => by
    obtain ⟨rfl, rfl⟩ : a = 0 ∧ b = 0 := by omega
    rw [crs_zero]
    simp [L_zero]
  | s + 1, a, b, hs => by
    have hp := h.1
    by_cases e : a = 0 ∧ b = 0
    · obtain ⟨rfl, rfl⟩ := e
      rw [crs_zero]
      simp [L_zero]
    · have ea := Nat.div_add_mod a p
      have eb := Nat.div_add_mod b p
      have ma := Nat.mod_lt a (show 0 < p by omega)
      have mb := Nat.mod_lt b (show 0 < p by omega)
      have da : a / p ≤ a / 2 := Nat.div_le_div_left hp (by decide)
      have db : b / p ≤ b / 2 := Nat.div_le_div_left hp (by decide)
      rw [crs_step hp (by omega), List.sum_cons, L_step hp (a + b) a]
      by_cases c : p ≤ a % p + b % p + 0
      · rw [if_pos c]
        have em : (a + b) % p = a % p + b % p - p := by
          rw [Nat.add_mod, Nat.mod_eq_sub_mod (by omega), Nat.mod_eq_of_lt (by omega)]
        rw [em, ch_gt _ _ (by omega), Nat.zero_mul]
        constructor
        · intro z; omega
        · intro z; exact absurd rfl z
      · rw [if_neg c]
        have e2 : a + b = (a % p + b % p) + p * (a / p + b / p) := by rw [Nat.mul_add]; omega
        have em : (a + b) % p = a % p + b % p := by
          rw [e2, Nat.add_mul_mod_self_left, Nat.mod_eq_of_lt (by omega)]
        have ed : (a + b) / p = a / p + b / p := by
          rw [e2, Nat.add_mul_div_left _ _ (by omega), Nat.div_eq_of_lt (by omega), Nat.zero_add]
        have hc := ch_pos (a % p + b % p) (a % p) (by omega)
        rw [em, ed, Nat.zero_add, crs_L h s (a / p) (b / p) (by omega)]
        constructor
        · intro z y
          rcases Nat.mul_eq_zero.mp y with w | w
          · omega
          · exact z w
        · intro z y
          exact z (by rw [y, Nat.mul_zero])
/-! how many of a row p does not divide -/
def dgt (p : Nat) : Nat → Nat → List Nat
  | 0, _ => []
  | f + 1, n => if n = 0 then [] else n % p :: dgt p f (n / p)
theorem dgt_more {p : Nat} (hp : 2 ≤ p) : ∀ f g n, n ≤ f → n ≤ g → dgt p f n = dgt p g n
  | 0, g, n, h1, _ => by
    have : n = 0 := by omega
    subst this
    cases g <;> rfl
  | f + 1, 0, n, _, h2 => by
    have : n = 0 := by omega
    subst this; rfl
  | f + 1, g + 1, n, h1, h2 => by
    unfold dgt
    by_cases e : n = 0
    · rw [if_pos e, if_pos e]
    · have d : n / p ≤ n / 2 := Nat.div_le_div_left hp (by decide)
      rw [if_neg e, if_neg e, dgt_more hp f g (n / p) (by omega) (by omega)]
def dg (p n : Nat) : List Nat := dgt p n n
theorem dg_zero (p : Nat) : dg p 0 = [] := rfl
theorem dg_step {p n : Nat} (hp : 2 ≤ p) (h : n ≠ 0) : dg p n = n % p :: dg p (n / p) := by
  obtain ⟨m, rfl⟩ : ∃ m, n = m + 1 := ⟨n - 1, by omega⟩
  have d : (m + 1) / p ≤ (m + 1) / 2 := Nat.div_le_div_left hp (by decide)
  unfold dg
  show (if m + 1 = 0 then [] else _ :: dgt p m _) = _
  rw [if_neg h, dgt_more hp m _ _ (by omega) (Nat.le_refl _)]
theorem dg_len {p : Nat} (hp : 2 ≤ p) : ∀ (k n : Nat), n < 2 ^ k → (dg p n).length ≤ k
  | 0, n, h => by
    have : n = 0 := by omega
    subst this
    rw [dg_zero]; simp
  | k + 1, n, h => by
    by_cases e : n = 0
    · subst e; rw [dg_zero]; simp
    · have d : n / p ≤ n / 2 := Nat.div_le_div_left hp (by decide)
      rw [Nat.pow_succ] at h
      rw [dg_step hp e, List.length_cons]
      have := dg_len hp k (n / p) (by omega)
      omega
def pr (l : List Nat) : Nat := l.foldr (fun d a => (d + 1) * a) 1
theorem pr_fold : ∀ (l : List Nat) (s : Nat), l.foldl (fun a d => a * (d + 1)) s = s * pr l
  | [], s => by show s = s * 1; rw [Nat.mul_one]
  | d :: l, s => by
    rw [List.foldl_cons, pr_fold l]
    show s * (d + 1) * pr l = s * ((d + 1) * pr l)
    rw [Nat.mul_assoc]
theorem pr_app : ∀ a b : List Nat, pr (a ++ b) = pr a * pr b
  | [], b => by show pr b = 1 * pr b; rw [Nat.one_mul]
  | d :: a, b => by
    show (d + 1) * pr (a ++ b) = (d + 1) * pr a * pr b
    rw [pr_app a b, Nat.mul_assoc]
theorem pr_rev : ∀ l : List Nat, pr l.reverse = pr l
  | [] => rfl
  | d :: l => by
    rw [List.reverse_cons, pr_app, pr_rev l]
    show pr l * ((d + 1) * 1) = (d + 1) * pr l
    rw [Nat.mul_one, Nat.mul_comm]
def fullB (p : Nat) (l : List Nat) : Bool := (List.range l.length).all fun j => decide (j + 1 = l.length) || decide (l.getD j 0 = p - 1)
theorem full_cons (p d : Nat) {l : List Nat} (h : l ≠ []) : fullB p (d :: l) = (decide (d = p - 1) && fullB p l) := by
  have hl := List.length_pos_iff.mpr h
  unfold fullB
  rw [List.length_cons, List.range_succ_eq_map, List.all_cons, List.all_map]
  have e1 : (decide (0 + 1 = l.length + 1) || decide ((d :: l).getD 0 0 = p - 1)) = decide (d = p - 1) := by
    rw [decide_eq_false (by omega), Bool.false_or]; rfl
  rw [e1]
  congr 1
  refine congrArg (fun f => (List.range l.length).all f) ?_
  funext j
  show (decide (j + 1 + 1 = l.length + 1) || decide ((d :: l).getD (j + 1) 0 = p - 1)) = _
  rw [show decide (j + 1 + 1 = l.length + 1) = decide (j + 1 = l.length) by rw [Bool.eq_iff_iff, decide_eq_true_eq, decide_eq_true_eq]; omega]
  rfl
theorem dg_ne {p n : Nat} (hp : 2 ≤ p) (h : n ≠ 0) : dg p n ≠ [] := by rw [dg_step hp h]; simp
theorem pr_full {p : Nat} (hp : 2 ≤ p) : ∀ (s n : Nat), n ≤ s → pr (dg p n) ≤ n + 1 ∧ (pr (dg p n) = n + 1 ↔ fullB p (dg p n) = true)
  | 0, n, h => by
    have : n = 0 := by omega
    subst this
    rw [dg_zero]
    exact ⟨Nat.le_refl _, fun _ => rfl, fun _ => rfl⟩
  | s + 1, n, h => by
    by_cases e : n = 0
    · subst e
      rw [dg_zero]
      exact ⟨Nat.le_refl _, fun _ => rfl, fun _ => rfl⟩
    · have en := Nat.div_add_mod n p
      have mn := Nat.mod_lt n (show 0 < p by omega)
      have d : n / p ≤ n / 2 := Nat.div_le_div_left hp (by decide)
      obtain ⟨i1, i2⟩ := pr_full hp s (n / p) (by omega)
      rw [dg_step hp e]
      show (n % p + 1) * pr (dg p (n / p)) ≤ n + 1 ∧ ((n % p + 1) * pr (dg p (n / p)) = n + 1 ↔ _)
      by_cases z : n / p = 0
      · rw [z, Nat.mul_zero] at en
        rw [z, dg_zero]
        have e1 : pr [] = 1 := rfl
        rw [e1]
        refine ⟨by omega, fun _ => ?_, fun _ => by omega⟩
        unfold fullB
        simp
      · rw [full_cons p _ (dg_ne hp z)]
        have hm : (n % p + 1) * (n / p) ≤ p * (n / p) := Nat.mul_le_mul_right _ (by omega)
        rcases Nat.lt_or_ge (pr (dg p (n / p))) (n / p + 1) with c | c
        · have h1 : (n % p + 1) * pr (dg p (n / p)) ≤ (n % p + 1) * (n / p) := Nat.mul_le_mul_left _ (by omega)
          refine ⟨by omega, fun y => by omega, fun y => ?_⟩
          rw [Bool.and_eq_true] at y
          have := i2.mpr y.2
          omega
        · have c : pr (dg p (n / p)) = n / p + 1 := by omega
          have hf := i2.mp c
          rw [c, Nat.mul_add, Nat.mul_one, hf, Bool.and_true, decide_eq_true_eq]
          refine ⟨by omega, fun y => ?_, fun y => ?_⟩
          · rcases Nat.lt_or_ge (n % p + 1) p with w | w
            · have := Nat.mul_lt_mul_of_pos_right w (Nat.pos_of_ne_zero z)
              omega
            · omega
          · have : n % p + 1 = p := by omega
            rw [this]
            omega
end K36


set_option Elab.async false
set_option linter.all false
set_option maxRecDepth 100000
set_option maxHeartbeats 4000000
set_option autoImplicit true
namespace K36
/-! figures, carries, primes in products -/
def sd (p n : Nat) : Nat := (dg p n).sum
theorem sd_step {p : Nat} (hp : 2 ≤ p) (n : Nat) : sd p n = n % p + sd p (n / p) := by
  by_cases h : n = 0
  · subst h
    rw [Nat.zero_mod, Nat.zero_div, Nat.zero_add]
  · show (dg p n).sum = _
    rw [dg_step hp h, List.sum_cons]; rfl
theorem sd_zero (p : Nat) : sd p 0 = 0 := by show (dg p 0).sum = 0; rw [dg_zero]; rfl
theorem add_dm {p a b c : Nat} (hp : 2 ≤ p) (hc : c ≤ 1) : (a + b + c) % p + (if p ≤ a % p + b % p + c then 1 else 0) * p = a % p + b % p + c ∧ (a + b + c) / p = a / p + b / p + (if p ≤ a % p + b % p + c then 1 else 0) := by
  have ha := Nat.mod_add_div a p
  have hb := Nat.mod_add_div b p
  have la := Nat.mod_lt a (show 0 < p by omega)
  have lb := Nat.mod_lt b (show 0 < p by omega)
  generalize a % p = x at *
  generalize a / p = u at *
  generalize b % p = y at *
  generalize b / p = v at *
  subst ha hb
  split
  · rename_i h
    have e : x + p * u + (y + p * v) + c = (x + y + c - p) + p * (u + v + 1) := by rw [Nat.mul_add, Nat.mul_add]; omega
    rw [e, Nat.add_mul_mod_self_left, Nat.add_mul_div_left _ _ (show 0 < p by omega), Nat.mod_eq_of_lt (by omega), Nat.div_eq_of_lt (by omega)]
    omega
  · rename_i h
    have e : x + p * u + (y + p * v) + c = (x + y + c) + p * (u + v) := by rw [Nat.mul_add]; omega
    rw [e, Nat.add_mul_mod_self_left, Nat.add_mul_div_left _ _ (show 0 < p by omega), Nat.mod_eq_of_lt (by omega), Nat.div_eq_of_lt (by omega)]
    omega
theorem crs_sum {p : Nat} (hp : 2 ≤ p) : ∀ (s a b c : Nat), a + b + c ≤ s → c ≤ 1 → sd p a + sd p b + c = sd p (a + b + c) + (p - 1) * (crs p a b c).sum := by
  intro s
  induction s with
  | zero =>
    intro a b c h _
    obtain ⟨rfl, rfl, rfl⟩ : a = 0 ∧ b = 0 ∧ c = 0 := by omega
    rw [crs_zero]; simp [sd_zero]
  | succ s ih =>
    intro a b c h hc
    by_cases h0 : a = 0 ∧ b = 0 ∧ c = 0
    · obtain ⟨rfl, rfl, rfl⟩ := h0
      rw [crs_zero]; simp [sd_zero]
    · have hd := cr_down (a := a) (b := b) (c := c) hp h0
      obtain ⟨e1, e2⟩ := add_dm (a := a) (b := b) hp hc
      rw [crs_step hp h0, List.sum_cons, sd_step hp a, sd_step hp b, sd_step hp (a + b + c), e2]
      generalize hD : (if p ≤ a % p + b % p + c then 1 else 0) = d at *
      have hd1 : d ≤ 1 := by rw [← hD]; split <;> omega
      have := ih (a / p) (b / p) d (by omega) hd1
      rw [Nat.mul_add]
      have e3 : (p - 1) * d + d = d * p := by
        rw [← Nat.succ_mul, show (p - 1).succ = p by omega, Nat.mul_comm]
      omega
theorem crs_sym {p : Nat} (hp : 2 ≤ p) (a b : Nat) : (crs p a b 0).sum = (crs p b a 0).sum := by
  have h1 := crs_sum hp _ a b 0 (Nat.le_refl _) (by omega)
  have h2 := crs_sum hp _ b a 0 (Nat.le_refl _) (by omega)
  rw [Nat.add_comm b a] at h2
  have h3 : (p - 1) * (crs p a b 0).sum = (p - 1) * (crs p b a 0).sum := by omega
  exact Nat.eq_of_mul_eq_mul_left (by omega) h3
def ipf (p : Nat) : Nat → Nat → Nat
  | 0, _ => 0
  | f + 1, n => if n = 0 then 0 else n / p + ipf p f (n / p)
theorem ipf_more {p : Nat} (hp : 2 ≤ p) : ∀ f g n, n ≤ f → n ≤ g → ipf p f n = ipf p g n
  | 0, 0, _, _, _ => rfl
  | 0, g + 1, n, h, _ => by
    show 0 = if n = 0 then 0 else _
    rw [if_pos (by omega)]
  | f + 1, 0, n, _, h => by
    show (if n = 0 then 0 else _) = 0
    rw [if_pos (by omega)]
  | f + 1, g + 1, n, h1, h2 => by
    show (if n = 0 then 0 else n / p + ipf p f (n / p)) = if n = 0 then 0 else n / p + ipf p g (n / p)
    by_cases h : n = 0
    · rw [if_pos h, if_pos h]
    · have := Nat.div_lt_self (show 0 < n by omega) (show 1 < p by omega)
      rw [if_neg h, if_neg h, ipf_more hp f g (n / p) (by omega) (by omega)]
def ip (p n : Nat) : Nat := ipf p n n
theorem ip_zero (p : Nat) : ip p 0 = 0 := rfl
theorem ip_step {p n : Nat} (hp : 2 ≤ p) (h : n ≠ 0) : ip p n = n / p + ip p (n / p) := by
  obtain ⟨f, rfl⟩ : ∃ f, n = f + 1 := ⟨n - 1, by omega⟩
  have := Nat.div_lt_self (show 0 < f + 1 by omega) (show 1 < p by omega)
  show (if f + 1 = 0 then 0 else (f + 1) / p + ipf p f ((f + 1) / p)) = _
  rw [if_neg h, ipf_more hp f ((f + 1) / p) ((f + 1) / p) (by omega) (Nat.le_refl _)]
  rfl
theorem legendre {p : Nat} (hp : 2 ≤ p) : ∀ (s n : Nat), n ≤ s → ip p n * (p - 1) + sd p n = n := by
  intro s
  induction s with
  | zero => intro n h; obtain rfl : n = 0 := by omega
            rw [ip_zero, sd_zero]; omega
  | succ s ih =>
    intro n h
    by_cases h0 : n = 0
    · subst h0; rw [ip_zero, sd_zero]; omega
    · have hl := Nat.div_lt_self (show 0 < n by omega) (show 1 < p by omega)
      have h1 := ih (n / p) (by omega)
      have h2 := Nat.mod_add_div n p
      rw [ip_step hp h0, sd_step hp n, Nat.add_mul]
      have e3 : n / p * (p - 1) + n / p = p * (n / p) := by
        rw [← Nat.mul_succ, show (p - 1).succ = p by omega, Nat.mul_comm]
      omega
def oif (p : Nat) : Nat → Nat → Nat
  | 0, _ => 0
  | f + 1, n => if n % p = 0 then 1 + oif p f (n / p) else 0
def oi (p n : Nat) : Nat := oif p n n
theorem oif_more {p : Nat} (hp : 2 ≤ p) : ∀ f g n, 1 ≤ n → n ≤ f → n ≤ g → oif p f n = oif p g n
  | 0, _, n, h, h1, _ => by omega
  | _ + 1, 0, n, h, _, h2 => by omega
  | f + 1, g + 1, n, h, h1, h2 => by
    show (if n % p = 0 then 1 + oif p f (n / p) else 0) = if n % p = 0 then 1 + oif p g (n / p) else 0
    by_cases h0 : n % p = 0
    · have hl := Nat.div_lt_self (show 0 < n by omega) (show 1 < p by omega)
      have h3 := Nat.mod_add_div n p
      have h4 : 1 ≤ n / p := by
        rcases Nat.eq_zero_or_pos (n / p) with z | z
        · rw [z, Nat.mul_zero] at h3; omega
        · exact z
      rw [if_pos h0, if_pos h0, oif_more hp f g (n / p) h4 (by omega) (by omega)]
    · rw [if_neg h0, if_neg h0]
theorem oi_no {p n : Nat} (h : n % p ≠ 0) : oi p n = 0 := by
  unfold oi
  cases n with
  | zero => rfl
  | succ n => show (if (n + 1) % p = 0 then _ else 0) = 0; rw [if_neg h]
theorem oi_yes {p n : Nat} (hp : 2 ≤ p) (h1 : 1 ≤ n) (h : n % p = 0) : 1 ≤ n / p ∧ n / p < n ∧ oi p n = oi p (n / p) + 1 := by
  have hl := Nat.div_lt_self (show 0 < n by omega) (show 1 < p by omega)
  have h3 := Nat.mod_add_div n p
  have h4 : 1 ≤ n / p := by
    rcases Nat.eq_zero_or_pos (n / p) with z | z
    · rw [z, Nat.mul_zero] at h3; omega
    · exact z
  refine ⟨h4, hl, ?_⟩
  obtain ⟨f, rfl⟩ : ∃ f, n = f + 1 := ⟨n - 1, by omega⟩
  show (if (f + 1) % p = 0 then 1 + oif p f ((f + 1) / p) else 0) = _
  rw [if_pos h, oif_more hp f ((f + 1) / p) ((f + 1) / p) h4 (by omega) (Nat.le_refl _), Nat.add_comm]
  rfl
def stc (b n : Nat) : Nat := n + ip b n
def strip : Nat → Nat → Nat → Nat
  | 0, r, _ => r
  | f + 1, r, o => if r % o = 0 then strip f (r / o) o else r
def pd : Nat → Nat → Nat → List Nat
  | 0, _, _ => []
  | f + 1, rest, one => if one * one ≤ rest then (if rest % one = 0 then one :: pd f (strip rest rest one) (one + 1) else pd f rest (one + 1)) else if 1 < rest then [rest] else []
def pds (n : Nat) : List Nat := pd n n 2
def isPr (n : Nat) : Bool := decide (1 < n) && decide (pds n = [n])
def P1 : List Nat := [2, 3, 5, 7, 11, 13, 101, 997, 1999]
def P2 : List Nat := [7919, 65537, 104729, 999983]
theorem pr_all : ((P1 ++ P2).all isPr) = true := by decide +kernel
theorem pr_not : ([4, 9, 91, 1000000].all fun n => !isPr n) = true := by decide +kernel
end K36


set_option Elab.async false
set_option linter.all false
set_option maxRecDepth 100000
set_option maxHeartbeats 4000000
set_option autoImplicit true
namespace K36
def rrf (p : Nat) : Nat → Nat → Nat
  | 0, _ => 1
  | f + 1, n => if n = 0 then 1 else fact (n % p) * (if n / p % 2 = 1 then p - 1 else 1) * rrf p f (n / p)
theorem rrf_more {p : Nat} (hp : 2 ≤ p) : ∀ f g n, n ≤ f → n ≤ g → rrf p f n = rrf p g n
  | 0, 0, _, _, _ => rfl
  | 0, g + 1, n, h, _ => by
    show 1 = if n = 0 then 1 else _
    rw [if_pos (by omega)]
  | f + 1, 0, n, _, h => by
    show (if n = 0 then 1 else _) = 1
    rw [if_pos (by omega)]
  | f + 1, g + 1, n, h1, h2 => by
    show (if n = 0 then 1 else fact (n % p) * (if n / p % 2 = 1 then p - 1 else 1) * rrf p f (n / p)) = if n = 0 then 1 else fact (n % p) * (if n / p % 2 = 1 then p - 1 else 1) * rrf p g (n / p)
    by_cases h : n = 0
    · rw [if_pos h, if_pos h]
    · have := Nat.div_lt_self (show 0 < n by omega) (show 1 < p by omega)
      rw [if_neg h, if_neg h, rrf_more hp f g (n / p) (by omega) (by omega)]
def rr (p n : Nat) : Nat := rrf p n n
theorem rr_zero (p : Nat) : rr p 0 = 1 := rfl
theorem rr_step {p n : Nat} (hp : 2 ≤ p) (h : n ≠ 0) : rr p n = fact (n % p) * (if n / p % 2 = 1 then p - 1 else 1) * rr p (n / p) := by
  obtain ⟨f, rfl⟩ : ∃ f, n = f + 1 := ⟨n - 1, by omega⟩
  have := Nat.div_lt_self (show 0 < f + 1 by omega) (show 1 < p by omega)
  show (if f + 1 = 0 then 1 else fact ((f + 1) % p) * (if (f + 1) / p % 2 = 1 then p - 1 else 1) * rrf p f ((f + 1) / p)) = _
  rw [if_neg h, rrf_more hp f ((f + 1) / p) ((f + 1) / p) (by omega) (Nat.le_refl _)]
  rfl
theorem mul_same {a b p : Nat} (c : Nat) (h : a % p = b % p) : a * c % p = b * c % p := by
  rw [Nat.mul_mod, h, ← Nat.mul_mod]
theorem neg_mod {p f : Nat} (hf : f < p) : (p - f) % p = f * (p - 1) % p := by
  rcases Nat.eq_zero_or_pos f with rfl | h
  · rw [Nat.sub_zero, Nat.mod_self, Nat.zero_mul, Nat.zero_mod]
  · obtain ⟨g, rfl⟩ : ∃ g, f = g + 1 := ⟨f - 1, by omega⟩
    have e : (g + 1) * (p - 1) = (p - (g + 1)) + p * g := by
      have h1 : (g + 1) * (p - 1) + (g + 1) = (g + 1) * p := by
        rw [← Nat.mul_succ, show (p - 1).succ = p by omega]
      have h2 : (g + 1) * p = g * p + p := by rw [Nat.succ_mul]
      have h3 : g * p = p * g := Nat.mul_comm ..
      omega
    rw [e, Nat.add_mul_mod_self_left]
/-! the last figure -/
def t6 (k : Nat) : Nat := [6, 2, 4, 8].getD (k % 4) 0
def t5 (d : Nat) : Nat := [1, 1, 2, 6, 4].getD d 0
def t3 (k : Nat) : Nat := [1, 3, 4, 2].getD (k % 4) 0
def lg (n : Nat) : Nat := (if 0 < n / 5 then t6 (n / 5) else 1) * t5 (n % 5)
def laf : Nat → Nat → Nat
  | 0, _ => 1
  | f + 1, n => if n = 0 then 1 else lg n * laf f (n / 5)
theorem laf_more : ∀ f g n, n ≤ f → n ≤ g → laf f n = laf g n
  | 0, 0, _, _, _ => rfl
  | 0, g + 1, n, h, _ => by
    show 1 = if n = 0 then 1 else _
    rw [if_pos (by omega)]
  | f + 1, 0, n, _, h => by
    show (if n = 0 then 1 else _) = 1
    rw [if_pos (by omega)]
  | f + 1, g + 1, n, h1, h2 => by
    show (if n = 0 then 1 else lg n * laf f (n / 5)) = if n = 0 then 1 else lg n * laf g (n / 5)
    by_cases h : n = 0
    · rw [if_pos h, if_pos h]
    · rw [if_neg h, if_neg h, laf_more f g (n / 5) (by omega) (by omega)]
def la (n : Nat) : Nat := laf n n
theorem la_zero : la 0 = 1 := rfl
theorem la_step {n : Nat} (h : n ≠ 0) : la n = lg n * la (n / 5) := by
  obtain ⟨f, rfl⟩ : ∃ f, n = f + 1 := ⟨n - 1, by omega⟩
  show (if f + 1 = 0 then 1 else lg (f + 1) * laf f ((f + 1) / 5)) = _
  rw [if_neg h, laf_more f ((f + 1) / 5) ((f + 1) / 5) (by omega) (Nat.le_refl _)]
  rfl
theorem pow3 (k : Nat) : 3 ^ k % 5 = t3 k := by
  have e : 3 ^ k % 5 = 3 ^ (k % 4) % 5 := by
    conv => lhs; rw [← Nat.div_add_mod k 4, Nat.pow_add, Nat.pow_mul]
    rw [Nat.mul_mod, Nat.pow_mod, show (3 : Nat) ^ 4 % 5 = 1 from rfl, Nat.one_pow]
    simp
  rw [e]
  unfold t3
  have : k % 4 < 4 := Nat.mod_lt _ (by decide)
  generalize k % 4 = j at *
  rcases j with _ | _ | _ | _ | j
  · rfl
  · rfl
  · rfl
  · rfl
  · omega
theorem gtab : ((List.range 4).all fun j => (List.range 5).all fun d => (List.range 2).all fun o => decide (j % 2 = o → ([6, 2, 4, 8].getD j 0 * t5 d) % 5 = (fact d * (if o = 1 then 4 else 1) * ([1, 3, 4, 2].getD j 0)) % 5) && decide (t5 d % 5 = fact d % 5)) = true := by decide +kernel
theorem g_mod (n : Nat) : lg n % 5 = fact (n % 5) * (if n / 5 % 2 = 1 then 5 - 1 else 1) * 3 ^ (n / 5) % 5 := by
  have h4 : n / 5 % 4 < 4 := Nat.mod_lt _ (by decide)
  have h5 : n % 5 < 5 := Nat.mod_lt _ (by decide)
  have h2 : n / 5 % 2 < 2 := Nat.mod_lt _ (by decide)
  have z := List.all_eq_true.mp (List.all_eq_true.mp (List.all_eq_true.mp gtab (n / 5 % 4) (List.mem_range.mpr h4)) (n % 5) (List.mem_range.mpr h5)) (n / 5 % 2) (List.mem_range.mpr h2)
  rw [Bool.and_eq_true, decide_eq_true_eq, decide_eq_true_eq] at z
  have z1 := z.1 (by omega)
  unfold lg
  have e3 : fact (n % 5) * (if n / 5 % 2 = 1 then 5 - 1 else 1) * 3 ^ (n / 5) % 5 = fact (n % 5) * (if n / 5 % 2 = 1 then 4 else 1) * t3 (n / 5) % 5 := by
    rw [← pow3, Nat.mul_mod_mod]
  rw [e3]
  split
  · exact z1
  · have : n / 5 = 0 := by omega
    rw [this, Nat.one_mul, z.2]
    show _ = fact (n % 5) * (if 0 % 2 = 1 then 4 else 1) * 1 % 5
    simp
theorem la_mod : ∀ (s n : Nat), n ≤ s → la n % 5 = rr 5 n * 3 ^ ip 5 n % 5 := by
  intro s
  induction s with
  | zero => intro n h; obtain rfl : n = 0 := by omega
            rfl
  | succ s ih =>
    intro n h
    by_cases h0 : n = 0
    · subst h0; rfl
    · have h1 := ih (n / 5) (by omega)
      rw [la_step h0, rr_step (by decide) h0, ip_step (by decide) h0, Nat.pow_add, Nat.mul_mod, h1, g_mod, ← Nat.mul_mod]
      congr 1
      generalize fact (n % 5) = a
      generalize (if n / 5 % 2 = 1 then 5 - 1 else 1) = b
      generalize rr 5 (n / 5) = c
      generalize 3 ^ (n / 5) = d
      generalize 3 ^ ip 5 (n / 5) = e
      simp only [Nat.mul_assoc, Nat.mul_left_comm, Nat.mul_comm]
theorem la_even {n : Nat} (h : 2 ≤ n) : la n % 2 = 0 := by
  rw [la_step (by omega), Nat.mul_mod]
  have : lg n % 2 = 0 := by
    unfold lg
    have h5 : n % 5 < 5 := Nat.mod_lt _ (by decide)
    split
    · rw [Nat.mul_mod]
      have : t6 (n / 5) % 2 = 0 := by
        unfold t6
        have : n / 5 % 4 < 4 := Nat.mod_lt _ (by decide)
        generalize n / 5 % 4 = j at *
        rcases j with _ | _ | _ | _ | j
        · rfl
        · rfl
        · rfl
        · rfl
        · omega
      rw [this, Nat.zero_mul]
    · have e : n % 5 = n := Nat.mod_eq_of_lt (by omega)
      rw [e, Nat.one_mul]
      have : n < 5 := by omega
      rcases n with _ | _ | _ | _ | _ | n
      · omega
      · omega
      · rfl
      · rfl
      · rfl
      · omega
  rw [this, Nat.zero_mul]
theorem la_odd {n : Nat} (h : n ≤ 1) : la n % 2 = 1 := by
  rcases n with _ | _ | n
  · rfl
  · rfl
  · omega
theorem ip_two (n : Nat) : n / 2 ≤ ip 2 n := by
  by_cases h : n = 0
  · subst h; exact Nat.zero_le _
  · rw [ip_step (by decide) h]; omega
theorem ip_same (n : Nat) : ip 2 n = ip 5 n ↔ n ≤ 1 := by
  constructor
  · intro h
    have h1 := legendre (p := 5) (by decide) _ n (Nat.le_refl _)
    have h2 := ip_two n
    omega
  · intro h
    rcases n with _ | _ | n
    · rfl
    · rfl
    · omega
def lastF (n : Nat) : Nat := if ip 2 n = ip 5 n then (if (rr 5 n % 5 * t3 (ip 5 n) % 5) % 2 = 1 then rr 5 n % 5 * t3 (ip 5 n) % 5 else rr 5 n % 5 * t3 (ip 5 n) % 5 + 5) else (if (rr 5 n % 5 * t3 (ip 5 n) % 5) % 2 = 0 then rr 5 n % 5 * t3 (ip 5 n) % 5 else rr 5 n % 5 * t3 (ip 5 n) % 5 + 5)
theorem last_eq (n : Nat) : lastF n = la n % 10 := by
  have h1 := la_mod _ n (Nat.le_refl _)
  have h2 : rr 5 n * 3 ^ ip 5 n % 5 = rr 5 n % 5 * t3 (ip 5 n) % 5 := by rw [← pow3, ← Nat.mul_mod]
  rw [h2] at h1
  unfold lastF
  generalize rr 5 n % 5 * t3 (ip 5 n) % 5 = r at *
  have hr : r < 5 := by omega
  have h3 := ip_same n
  rcases Nat.lt_or_ge n 2 with z | z
  · have h4 := la_odd (n := n) (by omega)
    rw [if_pos (h3.mpr (by omega))]
    split <;> omega
  · have h4 := la_even z
    rw [if_neg fun y => by have := h3.mp y; omega]
    split <;> omega
/-! parts of a base -/
def str (p x : Nat) : Nat := x / p ^ oi p x
theorem str_no {p x : Nat} (h : x % p ≠ 0) : str p x = x := by unfold str; rw [oi_no h, Nat.pow_zero, Nat.div_one]
theorem str_yes {p x : Nat} (hp : 2 ≤ p) (h1 : 1 ≤ x) (h : x % p = 0) : str p x = str p (x / p) := by
  unfold str
  rw [(oi_yes hp h1 h).2.2, Nat.pow_succ, Nat.mul_comm, Nat.div_div_eq_div_mul]
def znx (r p : Nat) : Nat := if p * p ≤ r then p + 1 else max r (p + 1)
def zfl : Nat → Nat → Nat → Option (List (Nat × Nat))
  | 0, _, _ => none
  | f + 1, r, p => if r ≤ 1 then some [] else if 0 < oi p r then (zfl f (str p r) (znx (str p r) p)).map fun l => (p, oi p r) :: l else zfl f (str p r) (znx (str p r) p)
def zok (b : Nat) : Bool := match zfl 2000 b 2 with
  | some (c :: l) => (c :: l).all fun c => decide (2 ≤ c.1) && decide (c.1 ≤ 1000000) && decide (1 ≤ c.2) && decide (c.2 ≤ 20) && isPr c.1
  | _ => false
theorem zok_all : ((List.range 999).all fun i => zok (2 + i)) = true := by decide +kernel
theorem zok_two : zok 1000000 = true ∧ zok 999983 = true := by decide +kernel
/-! small ones -/
def Q6 : List Nat := [2, 3, 5, 7, 11, 53]
def fc (n : Nat) : Nat := fact n
theorem q_all : ((List.range 60).all fun n => (Q6.all fun p => decide (rr p n % p = str p (fact n) % p) && decide (oi p (fact n) = ip p n)) && decide (lastF n = str 10 (fact n) % 10)) = true := by decide +kernel
end K36


set_option Elab.async false
set_option linter.all false
set_option maxRecDepth 100000
namespace K36
open PySem PySem.Spec PyProof.Rows L2 DL
def natsD (l : List Nat) : List D := l.map fun i : Nat => D.int (i : Int)
def okN : D → Bool
  | .int i => decide (0 ≤ i) && decide (i ≤ 10 ^ 60)
  | _ => false
def okPr : D → Bool
  | .int i => (decide (2 ≤ i) && decide (i ≤ 1000000)) && isPr i.toNat
  | _ => false
def S_check_numbers (cn : Addr) : FS
  | [.tup xs], Q, E => xs.length ≤ 5 ∧ xs.all noq = true ∧ (xs.all okN = false → E cn) ∧ (xs.all okN = true → Q (.d .non))
  | _, _, _ => False
def S_primes_of : FS
  | [.int m], Q, _ => ∃ n : Nat, m = n ∧ 2 ≤ n ∧ n ≤ 1000000 ∧ Q (.f (natsD (pds n)))
  | _, _, _ => False
def S_is_prime : FS
  | [.int m], Q, _ => ∃ n : Nat, m = n ∧ 2 ≤ n ∧ n ≤ 1000000 ∧ Q (.d (.bl (isPr n)))
  | _, _, _ => False
def S_check_prime (cb : Addr) : FS
  | [x], Q, E => noq x = true ∧ (okPr x = false → E cb) ∧ (okPr x = true → Q (.d .non))
  | _, _, _ => False
def S_figures_of : FS
  | [.int m, .int b], Q, _ => ∃ n p : Nat, m = n ∧ b = p ∧ n ≤ 10 ^ 60 ∧ 2 ≤ p ∧ p ≤ 1000000 ∧ Q (.f (natsD (dg p n).reverse))
  | _, _, _ => False
def S_carries_of : FS
  | [.int a, .int b, .int c], Q, _ => ∃ k m p : Nat, a = k ∧ b = m ∧ c = p ∧ k ≤ 10 ^ 60 ∧ m ≤ 10 ^ 60 ∧ 2 ≤ p ∧ p ≤ 1000000 ∧ Q (.f (natsD (crs p k m 0)))
  | _, _, _ => False
def S_carry_number (cb cn : Addr) : FS
  | [x, y, z], Q, E => noq x = true ∧ noq y = true ∧ (okN x = false ∨ okN y = false → E cn) ∧ (okN x = true → okN y = true → noq z = true ∧ (within 2 1000000 z = false → E cb) ∧ (within 2 1000000 z = true → ∃ a b p : Nat, x = .int a ∧ y = .int b ∧ z = .int p ∧ Q (.d (.int ((crs p a b 0).sum : Nat)))))
  | _, _, _ => False
def S_often_in (cb cn : Addr) : FS
  | [x, z], Q, E => noq x = true ∧ (within 1 (10 ^ 60) x = false → E cn) ∧ (within 1 (10 ^ 60) x = true → noq z = true ∧ (okPr z = false → E cb) ∧ (okPr z = true → ∃ n p : Nat, x = .int n ∧ z = .int p ∧ Q (.d (.int (oi p n : Nat)))))
  | _, _, _ => False
def S_often_in_product (cb cn : Addr) : FS
  | [x, z], Q, E => noq x = true ∧ (okN x = false → E cn) ∧ (okN x = true → noq z = true ∧ (okPr z = false → E cb) ∧ (okPr z = true → ∃ n p : Nat, x = .int n ∧ z = .int p ∧ Q (.d (.int (ip p n : Nat)))))
  | _, _, _ => False
def S_often_by_figures (cb cn : Addr) : FS
  | [x, z], Q, E => noq x = true ∧ (okN x = false → E cn) ∧ (okN x = true → noq z = true ∧ (okPr z = false → E cb) ∧ (okPr z = true → ∃ n p : Nat, x = .int n ∧ z = .int p ∧ Q (.d (.int (ip p n : Nat)))))
  | _, _, _ => False
def S_often_in_choices (cb cn : Addr) : FS
  | [x, y, z], Q, E => noq x = true ∧ noq y = true ∧ (okN x = false ∨ okN y = false → E cn) ∧ (okN x = true → okN y = true → noq z = true ∧ (okPr z = false → E cb) ∧ (okPr z = true → ∃ n k p : Nat, x = .int n ∧ y = .int k ∧ z = .int p ∧ (n < k → Q (.d .non)) ∧ (k ≤ n → Q (.d (.int ((crs p k (n - k) 0).sum : Nat))))))
  | _, _, _ => False
def S__law_often : FS
  | [.int m, .int b], Q, _ => ∃ n p : Nat, m = n ∧ b = p ∧ 1 ≤ n ∧ 2 ≤ p ∧ p ≤ 2000000 ∧ Q (.d (.int (oi p n : Nat)))
  | _, _, _ => False
def S__law_in_product : FS
  | [.int m, .int b], Q, _ => ∃ n p : Nat, m = n ∧ b = p ∧ 2 ≤ p ∧ p ≤ 1000000 ∧ Q (.d (.int (ip p n : Nat)))
  | _, _, _ => False
def S_product_to : FS
  | [.int m], Q, _ => ∃ n : Nat, m = n ∧ n ≤ 2000 ∧ Q (.d (.int (fact n : Nat)))
  | _, _, _ => False
def S_rest_of_product (cb cn : Addr) : FS
  | [x, z], Q, E => noq x = true ∧ (okN x = false → E cn) ∧ (okN x = true → noq z = true ∧ (okPr z = false → E cb) ∧ (okPr z = true → ∃ n p : Nat, x = .int n ∧ z = .int p ∧ p ≤ 2000 ∧ Q (.d (.int (rr p n % p : Nat)))))
  | _, _, _ => False
def S_last_figure_of_product (cb cn : Addr) : FS
  | [x], Q, E => noq x = true ∧ (okN x = false → E cn) ∧ (okN x = true → ∃ n : Nat, x = .int n ∧ Q (.d (.int (lastF n : Nat))))
  | _, _, _ => False
def mnL (n : Nat) (l : List (Nat × Nat)) : List Nat := l.map fun c => ip c.1 n / c.2
def mn : List Nat → Nat
  | [] => 0
  | x :: l => l.foldl min x
def S_zeros_of_product (cb cn : Addr) : FS
  | [x, y], Q, E => noq x = true ∧ (okN x = false → E cn) ∧ (okN x = true → noq y = true ∧ (within 2 1000000 y = false → E cb) ∧ (within 2 1000000 y = true → ∃ n b : Nat, ∃ l, x = .int n ∧ y = .int b ∧ zok b = true ∧ zfl 2000 b 2 = some l ∧ Q (.d (.int (mn (mnL n l) : Nat)))))
  | _, _, _ => False
def S__law_no_number : FSB := fun xs ds Q _ => match ds with
  | [] => isHand xs ∧ ∀ x ys, noq x = true → okN x = false → isHand ys → Q (.d x) ys
  | _ => False
def S__law_prime : FSB := fun xs ds Q _ => match ds with
  | [.bl g] => isHand xs ∧ ∀ (p : Nat) ys, (p ∈ P1 ∨ (g = true ∧ p ∈ P2)) → isHand ys → Q (.d (.int (p : Nat))) ys
  | _ => False
def S__law_great : FSB := fun xs ds Q _ => match ds with
  | [] => isHand xs ∧ ∀ (n : Nat) ys, n ≤ 10 ^ 60 → isHand ys → Q (.d (.int (n : Nat))) ys
  | _ => False
def S__law_product : FS
  | [.int m], Q, _ => ∃ n : Nat, m = n ∧ n ≤ 60 ∧ Q (.d (.int (fact n : Nat)))
  | _, _, _ => False
def S__law_rest : FS
  | [.int m, .int c], Q, _ => ∃ n p : Nat, m = n ∧ c = p ∧ 2 ≤ p ∧ p ≤ 2000 ∧ Q (.d (.int (rr p n % p : Nat)))
  | _, _, _ => False
def S__law_last : FS
  | [.int m], Q, _ => ∃ n : Nat, m = n ∧ Q (.d (.int (la n % 10 : Nat)))
  | _, _, _ => False
def S__law_zeros : FS
  | [.int m, .int y], Q, _ => ∃ n b : Nat, ∃ l, m = n ∧ y = b ∧ 2 ≤ b ∧ b ≤ 1000000 ∧ zok b = true ∧ zfl 2000 b 2 = some l ∧ Q (.d (.int (mn (mnL n l) : Nat)))
  | _, _, _ => False
def S__law_carry_number : FS
  | [.int a, .int b, .int c], Q, _ => ∃ k m p : Nat, a = k ∧ b = m ∧ c = p ∧ 2 ≤ p ∧ p ≤ 1000000 ∧ Q (.d (.int ((crs p k m 0).sum : Nat)))
  | _, _, _ => False
def S__law_is_right : FSB := fun xs ds Q _ => match ds with
  | [] => isHand xs ∧ ∀ ys, isHand ys → Q (.d (.bl true)) ys
  | _ => False
def S__law_are_rests_right : FSB := fun xs ds Q _ => match ds with
  | [] => isHand xs ∧ ∀ ys, isHand ys → Q (.d (.bl true)) ys
  | _ => False
def S__law_are_refused_right : FSB := fun xs ds Q _ => match ds with
  | [] => isHand xs ∧ ∀ ys, isHand ys → Q (.d (.bl true)) ys
  | _ => False
def fe__law_word (cBadBase cBadDigits cBadNumber cBadSteps cBadWay cOtherBase cBadReader cTooMany : Addr) (C : Addr) (y : D) : Prop := (C = cBadBase ∧ y = .str "base") ∨ (C = cBadNumber ∧ y = .str "number")
def fr__law_word : D := .str "told"
def S_law : FS
  | [.sq xs], Q, _ => ∃ ns : List Int, xs = ns.map D.int ∧ ns.length ≤ 63 ∧ Q (.d (.bl true))
  | _, _, _ => False
theorem S_law_in (ns : List Int) (hl : ns.length ≤ 63) (Qd : Rf → Prop) (Ed : Addr → Prop) (h : Qd (.d (.bl true))) : S_law [.sq (ns.map D.int)] Qd Ed := ⟨ns, rfl, hl, h⟩
theorem l_product_to  : ∀ ds Qd Ed, S_product_to ds Qd Ed → ds.length = 1 := by
  intro ds Qd Ed h; unfold S_product_to at h; split at h <;> first | rfl | exact h.elim
theorem l_primes_of  : ∀ ds Qd Ed, S_primes_of ds Qd Ed → ds.length = 1 := by
  intro ds Qd Ed h; unfold S_primes_of at h; split at h <;> first | rfl | exact h.elim
theorem l_is_prime  : ∀ ds Qd Ed, S_is_prime ds Qd Ed → ds.length = 1 := by
  intro ds Qd Ed h; unfold S_is_prime at h; split at h <;> first | rfl | exact h.elim
theorem l_figures_of  : ∀ ds Qd Ed, S_figures_of ds Qd Ed → ds.length = 2 := by
  intro ds Qd Ed h; unfold S_figures_of at h; split at h <;> first | rfl | exact h.elim
theorem l_check_numbers {cn : Addr} : ∀ ds Qd Ed, S_check_numbers cn ds Qd Ed → ds.length = 1 := by
  intro ds Qd Ed h; unfold S_check_numbers at h; split at h <;> first | rfl | exact h.elim
theorem l_check_prime {cb : Addr} : ∀ ds Qd Ed, S_check_prime cb ds Qd Ed → ds.length = 1 := by
  intro ds Qd Ed h; unfold S_check_prime at h; split at h <;> first | rfl | exact h.elim
theorem l_carries_of  : ∀ ds Qd Ed, S_carries_of ds Qd Ed → ds.length = 3 := by
  intro ds Qd Ed h; unfold S_carries_of at h; split at h <;> first | rfl | exact h.elim
theorem l_carry_number {cb cn : Addr} : ∀ ds Qd Ed, S_carry_number cb cn ds Qd Ed → ds.length = 3 := by
  intro ds Qd Ed h; unfold S_carry_number at h; split at h <;> first | rfl | exact h.elim
theorem l_often_in {cb cn : Addr} : ∀ ds Qd Ed, S_often_in cb cn ds Qd Ed → ds.length = 2 := by
  intro ds Qd Ed h; unfold S_often_in at h; split at h <;> first | rfl | exact h.elim
theorem l_often_in_product {cb cn : Addr} : ∀ ds Qd Ed, S_often_in_product cb cn ds Qd Ed → ds.length = 2 := by
  intro ds Qd Ed h; unfold S_often_in_product at h; split at h <;> first | rfl | exact h.elim
theorem l_often_by_figures {cb cn : Addr} : ∀ ds Qd Ed, S_often_by_figures cb cn ds Qd Ed → ds.length = 2 := by
  intro ds Qd Ed h; unfold S_often_by_figures at h; split at h <;> first | rfl | exact h.elim
theorem l_often_in_choices {cb cn : Addr} : ∀ ds Qd Ed, S_often_in_choices cb cn ds Qd Ed → ds.length = 3 := by
  intro ds Qd Ed h; unfold S_often_in_choices at h; split at h <;> first | rfl | exact h.elim
theorem l_rest_of_product {cb cn : Addr} : ∀ ds Qd Ed, S_rest_of_product cb cn ds Qd Ed → ds.length = 2 := by
  intro ds Qd Ed h; unfold S_rest_of_product at h; split at h <;> first | rfl | exact h.elim
theorem l_last_figure_of_product {cb cn : Addr} : ∀ ds Qd Ed, S_last_figure_of_product cb cn ds Qd Ed → ds.length = 1 := by
  intro ds Qd Ed h; unfold S_last_figure_of_product at h; split at h <;> first | rfl | exact h.elim
theorem l_zeros_of_product {cb cn : Addr} : ∀ ds Qd Ed, S_zeros_of_product cb cn ds Qd Ed → ds.length = 2 := by
  intro ds Qd Ed h; unfold S_zeros_of_product at h; split at h <;> first | rfl | exact h.elim
theorem l__law_no_number  : ∀ xs ds Qd Ed, S__law_no_number xs ds Qd Ed → ds.length + 1 = 1 := by
  intro xs ds Qd Ed h; unfold S__law_no_number at h; split at h <;> first | rfl | exact h.elim
theorem l__law_prime  : ∀ xs ds Qd Ed, S__law_prime xs ds Qd Ed → ds.length + 1 = 2 := by
  intro xs ds Qd Ed h; unfold S__law_prime at h; split at h <;> first | rfl | exact h.elim
theorem l__law_great  : ∀ xs ds Qd Ed, S__law_great xs ds Qd Ed → ds.length + 1 = 1 := by
  intro xs ds Qd Ed h; unfold S__law_great at h; split at h <;> first | rfl | exact h.elim
theorem l__law_often  : ∀ ds Qd Ed, S__law_often ds Qd Ed → ds.length = 2 := by
  intro ds Qd Ed h; unfold S__law_often at h; split at h <;> first | rfl | exact h.elim
theorem l__law_in_product  : ∀ ds Qd Ed, S__law_in_product ds Qd Ed → ds.length = 2 := by
  intro ds Qd Ed h; unfold S__law_in_product at h; split at h <;> first | rfl | exact h.elim
theorem l__law_product  : ∀ ds Qd Ed, S__law_product ds Qd Ed → ds.length = 1 := by
  intro ds Qd Ed h; unfold S__law_product at h; split at h <;> first | rfl | exact h.elim
theorem l__law_rest  : ∀ ds Qd Ed, S__law_rest ds Qd Ed → ds.length = 2 := by
  intro ds Qd Ed h; unfold S__law_rest at h; split at h <;> first | rfl | exact h.elim
theorem l__law_last  : ∀ ds Qd Ed, S__law_last ds Qd Ed → ds.length = 1 := by
  intro ds Qd Ed h; unfold S__law_last at h; split at h <;> first | rfl | exact h.elim
theorem l__law_zeros  : ∀ ds Qd Ed, S__law_zeros ds Qd Ed → ds.length = 2 := by
  intro ds Qd Ed h; unfold S__law_zeros at h; split at h <;> first | rfl | exact h.elim
theorem l__law_carry_number  : ∀ ds Qd Ed, S__law_carry_number ds Qd Ed → ds.length = 3 := by
  intro ds Qd Ed h; unfold S__law_carry_number at h; split at h <;> first | rfl | exact h.elim
theorem l__law_is_right  : ∀ xs ds Qd Ed, S__law_is_right xs ds Qd Ed → ds.length + 1 = 1 := by
  intro xs ds Qd Ed h; unfold S__law_is_right at h; split at h <;> first | rfl | exact h.elim
theorem l__law_are_rests_right  : ∀ xs ds Qd Ed, S__law_are_rests_right xs ds Qd Ed → ds.length + 1 = 1 := by
  intro xs ds Qd Ed h; unfold S__law_are_rests_right at h; split at h <;> first | rfl | exact h.elim
theorem l__law_are_refused_right  : ∀ xs ds Qd Ed, S__law_are_refused_right xs ds Qd Ed → ds.length + 1 = 1 := by
  intro xs ds Qd Ed h; unfold S__law_are_refused_right at h; split at h <;> first | rfl | exact h.elim
end K36


set_option Elab.async false
set_option linter.all false
set_option maxRecDepth 100000
set_option maxHeartbeats 4000000
namespace K36
open PySem PySem.Spec PyProof.Rows L2 DL
/-! ### is_integer -/
abbrev s_is_integer : Stmt := topS 1
theorem sc_is_integer : FnScope ["thing"] ["thing"] (defScope s_is_integer) := ⟨rfl, rfl, rfl, by decide +kernel, rfl, by decide +kernel, by decide +kernel⟩
theorem tm_is_integer {P : Program} {w : World} {K : PySem.W.Frag} {TB : List (Addr × Str)} {mg : Str → Option Value} {base : Heap} {cBadBase : Addr} {cBadDigits : Addr} {cBadNumber : Addr} {cBadSteps : Addr} {cBadWay : Addr} {cOtherBase : Addr} {cBadReader : Addr} {cTooMany : Addr} (T : Txt K mg cBadBase cBadDigits cBadNumber cBadSteps cBadWay cOtherBase cBadReader cTooMany)  (cdv : Value) (A : Around) (outer : List Env) (s : Shared) (H : Hp) (E : XK) {f : Addr} (hr : Room 0 (A.deeper (envOfC "is_integer" (defScope s_is_integer) s.heap.objs.size f cdv))) :
    PSs (cxOf (L2.CX P w) P w K mg base ["thing"] "is_integer" (defScope s_is_integer) f cdv A outer s H E) (defBody s_is_integer) (upS K TB (fun cls d _ H => E cls d H) rd_is_integer) := by
  have nd := sc_is_integer.nd
  exact (ds_one (ds_ret (dx_and (dx_callB call_isi (lc_isi (by decide)) T.z_isinstance b_isinstance (da_cons (dx_var 0) (da_cons (dx_ty T.z_int b_int) da_nil))) (dx_one (dx_not (dx_callB call_isi (lc_isi (by decide)) T.z_isinstance b_isinstance (da_cons (dx_var 0) (da_cons (dx_ty T.z_bool b_bool) da_nil))))))))
/-! ### check_numbers -/
abbrev s_check_numbers : Stmt := topS 21
theorem sc_check_numbers : FnScope ["numbers", "number"] ["numbers"] (defScope s_check_numbers) := ⟨rfl, rfl, rfl, by decide +kernel, rfl, by decide +kernel, by decide +kernel⟩
def rd_check_numbers (cBadNumber : Addr) : DS := sFor (iSeq (dVar 0)) (gN 1) (sIf (dOrT (dNotT (dB (dCall S_is_integer (aCons (dVar 1) aNil)))) (dNotT (dB (dChain fLe fLe (dC (.int 0)) (dVar 1) (dC (.int 1000000000000000000000000000000000000000000000000000000000000)))))) (sRaise cBadNumber) sSkip)
theorem tm_check_numbers {P : Program} {w : World} {K : PySem.W.Frag} {TB : List (Addr × Str)} {mg : Str → Option Value} {base : Heap} {cBadBase : Addr} {cBadDigits : Addr} {cBadNumber : Addr} {cBadSteps : Addr} {cBadWay : Addr} {cOtherBase : Addr} {cBadReader : Addr} {cTooMany : Addr} (T : Txt K mg cBadBase cBadDigits cBadNumber cBadSteps cBadWay cOtherBase cBadReader cTooMany) (D_is_integer : Dfn P w K mg base "is_integer" 1 (spA K TB 1 S_is_integer)) (cdv : Value) (A : Around) (outer : List Env) (s : Shared) (H : Hp) (E : XK) {f : Addr} (hr : Room 1 (A.deeper (envOfC "check_numbers" (defScope s_check_numbers) s.heap.objs.size f cdv))) :
    PSs (cxOf (L2.CX P w) P w K mg base ["numbers", "number"] "check_numbers" (defScope s_check_numbers) f cdv A outer s H E) (defBody s_check_numbers) (upS K TB (fun cls d _ H => E cls d H) (rd_check_numbers cBadNumber)) := by
  have nd := sc_check_numbers.nd
  have tk : Takes (cxOf (L2.CX P w) P w K mg base ["numbers", "number"] "check_numbers" (defScope s_check_numbers) f cdv A outer s H E) (fun cls d _ H => E cls d H) := takes_of rfl rfl rfl rfl
  have hp : PassesOwn (model P w) (A.deeper (envOfC "check_numbers" (defScope s_check_numbers) s.heap.objs.size f cdv)) (envOfC "check_numbers" (defScope s_check_numbers) s.heap.objs.size f cdv) (cxOf (L2.CX P w) P w K mg base ["numbers", "number"] "check_numbers" (defScope s_check_numbers) f cdv A outer s H E).xe := passes_of rfl
  exact (ds_one (ds_for hp rfl (di_seq (dx_var 0)) (dg_n (i := 1) (vs := [1]) (by decide) nd rfl (.inl rfl)) (ds_one (ds_if (L2.PW.pt (dw_or (dt_not (dt_val (dx_def D_is_integer tk hr (by decide) l_is_integer (da_cons (dx_var 1) da_nil)))) (dw_or1 (dt_not (dt_le_le dx_int (dx_var 1) (dx_globI T.k_MOST_NUMBER)))))) (ds_one (ds_raiseC T.e_BadNumber tk)) ds_nil))))
/-! ### is_within -/
abbrev s_is_within : Stmt := topS 2
theorem sc_is_within : FnScope ["thing", "low", "high"] ["thing", "low", "high"] (defScope s_is_within) := ⟨rfl, rfl, rfl, by decide +kernel, rfl, by decide +kernel, by decide +kernel⟩
theorem tm_is_within {P : Program} {w : World} {K : PySem.W.Frag} {TB : List (Addr × Str)} {mg : Str → Option Value} {base : Heap} {cBadBase : Addr} {cBadDigits : Addr} {cBadNumber : Addr} {cBadSteps : Addr} {cBadWay : Addr} {cOtherBase : Addr} {cBadReader : Addr} {cTooMany : Addr} (T : Txt K mg cBadBase cBadDigits cBadNumber cBadSteps cBadWay cOtherBase cBadReader cTooMany) (D_is_integer : Dfn P w K mg base "is_integer" 1 (spA K TB 1 S_is_integer)) (cdv : Value) (A : Around) (outer : List Env) (s : Shared) (H : Hp) (E : XK) {f : Addr} (hr : Room 1 (A.deeper (envOfC "is_within" (defScope s_is_within) s.heap.objs.size f cdv))) :
    PSs (cxOf (L2.CX P w) P w K mg base ["thing", "low", "high"] "is_within" (defScope s_is_within) f cdv A outer s H E) (defBody s_is_within) (upS K TB (fun cls d _ H => E cls d H) rd_is_within) := by
  have nd := sc_is_within.nd
  have tk : Takes (cxOf (L2.CX P w) P w K mg base ["thing", "low", "high"] "is_within" (defScope s_is_within) f cdv A outer s H E) (fun cls d _ H => E cls d H) := takes_of rfl rfl rfl rfl
  exact (ds_one (ds_ret (dx_and (dx_def D_is_integer tk hr (by decide) l_is_integer (da_cons (dx_var 0) da_nil)) (dx_one (dx_le_le (dx_var 1) (dx_var 0) (dx_var 2))))))
/-! ### primes_of -/
abbrev s_primes_of : Stmt := topS 4
theorem sc_primes_of : FnScope ["number", "found", "rest", "prime"] ["number"] (defScope s_primes_of) := ⟨rfl, rfl, rfl, by decide +kernel, rfl, by decide +kernel, by decide +kernel⟩
def rd_primes_of : DS := (sSeq (sMPar [1, 2, 3] (mN (nF (fLst aNil)) (mD (dVar 0) (mD (dC (.int 2)) mNil))))
  (sSeq (sWhile (dB (dBin fLe (dBin fMul (dVar 3) (dVar 3)) (dVar 2))) (sCut (sIf (dB (dBin fEq (dBin fMod (dVar 2) (dVar 3)) (dC (.int 0)))) (sSeq (sApp 1 (dVar 3))
  (sWhile (dB (dBin fEq (dBin fMod (dVar 2) (dVar 3)) (dC (.int 0)))) (sSet 2 (dBin fDiv (dVar 2) (dVar 3))))) sSkip)
  (sSet 3 (dBin fAdd (dVar 3) (dC (.int 1))))))
  (sCut (sIf (dB (dBin fGt (dVar 2) (dC (.int 1)))) (sApp 1 (dVar 2)) sSkip)
  (sRetO 1))))
theorem tm_primes_of {P : Program} {w : World} {K : PySem.W.Frag} {TB : List (Addr × Str)} {mg : Str → Option Value} {base : Heap} {cBadBase : Addr} {cBadDigits : Addr} {cBadNumber : Addr} {cBadSteps : Addr} {cBadWay : Addr} {cOtherBase : Addr} {cBadReader : Addr} {cTooMany : Addr} (T : Txt K mg cBadBase cBadDigits cBadNumber cBadSteps cBadWay cOtherBase cBadReader cTooMany)  (cdv : Value) (A : Around) (outer : List Env) (s : Shared) (H : Hp) (E : XK) {f : Addr} (hr : Room 0 (A.deeper (envOfC "primes_of" (defScope s_primes_of) s.heap.objs.size f cdv))) :
    PSs (cxOf (L2.CX P w) P w K mg base ["number", "found", "rest", "prime"] "primes_of" (defScope s_primes_of) f cdv A outer s H E) (defBody s_primes_of) (upS K TB (fun cls d _ H => E cls d H) rd_primes_of) := by
  have nd := sc_primes_of.nd
  have hp : PassesOwn (model P w) (A.deeper (envOfC "primes_of" (defScope s_primes_of) s.heap.objs.size f cdv)) (envOfC "primes_of" (defScope s_primes_of) s.heap.objs.size f cdv) (cxOf (L2.CX P w) P w K mg base ["number", "found", "rest", "prime"] "primes_of" (defScope s_primes_of) f cdv A outer s H E).xe := passes_of rfl
  exact (ds_cons (ds_mpar3 (i0 := 1) (i1 := 2) (i2 := 3) rfl nd (dm_n (dn_f (df_lst da_nil)) (dm_d (dx_var 0) (dm_d dx_int dm_nil))))
  (ds_cons (ds_while hp (dt_le (dx_mul (dx_var 3) (dx_var 3)) (dx_var 2)) (ds_cut (ds_if (dt_eq hr.units (dx_mod (dx_var 2) (dx_var 3)) dx_int) (ds_cons (ds_app 1 (dx_var 3))
  (ds_one (ds_while hp (dt_eq hr.units (dx_mod (dx_var 2) (dx_var 3)) dx_int) (ds_one (ds_set (i := 2) nd rfl (.inl rfl) (dx_div (dx_var 2) (dx_var 3))))))) ds_nil)
  (ds_one (ds_set (i := 3) nd rfl (.inl rfl) (dx_add (dx_var 3) dx_int)))))
  (ds_cut (ds_if (dt_gt (dx_var 2) dx_int) (ds_one (ds_app 1 (dx_var 2))) ds_nil)
  (ds_one (ds_retO 1)))))
/-! ### is_prime -/
abbrev s_is_prime : Stmt := topS 5
theorem sc_is_prime : FnScope ["number"] ["number"] (defScope s_is_prime) := ⟨rfl, rfl, rfl, by decide +kernel, rfl, by decide +kernel, by decide +kernel⟩
def rd_is_prime : DS := sRet (dAnd (dBin fGt (dVar 0) (dC (.int 1))) (dBin fEq (dCall S_primes_of (aCons (dVar 0) aNil)) (dF (fLst (aCons (dVar 0) aNil)))))
theorem tm_is_prime {P : Program} {w : World} {K : PySem.W.Frag} {TB : List (Addr × Str)} {mg : Str → Option Value} {base : Heap} {cBadBase : Addr} {cBadDigits : Addr} {cBadNumber : Addr} {cBadSteps : Addr} {cBadWay : Addr} {cOtherBase : Addr} {cBadReader : Addr} {cTooMany : Addr} (T : Txt K mg cBadBase cBadDigits cBadNumber cBadSteps cBadWay cOtherBase cBadReader cTooMany) (D_primes_of : Dfn P w K mg base "primes_of" 1 (spA K TB 1 S_primes_of)) (cdv : Value) (A : Around) (outer : List Env) (s : Shared) (H : Hp) (E : XK) {f : Addr} (hr : Room 1 (A.deeper (envOfC "is_prime" (defScope s_is_prime) s.heap.objs.size f cdv))) :
    PSs (cxOf (L2.CX P w) P w K mg base ["number"] "is_prime" (defScope s_is_prime) f cdv A outer s H E) (defBody s_is_prime) (upS K TB (fun cls d _ H => E cls d H) rd_is_prime) := by
  have nd := sc_is_prime.nd
  have tk : Takes (cxOf (L2.CX P w) P w K mg base ["number"] "is_prime" (defScope s_is_prime) f cdv A outer s H E) (fun cls d _ H => E cls d H) := takes_of rfl rfl rfl rfl
  exact (ds_one (ds_ret (dx_and (dx_gt (dx_var 0) dx_int) (dx_one (dx_eq hr.units (dx_def D_primes_of tk hr (by decide) l_primes_of (da_cons (dx_var 0) da_nil)) (dx_f (df_lst (da_cons (dx_var 0) da_nil))))))))
/-! ### check_prime -/
abbrev s_check_prime : Stmt := topS 22
theorem sc_check_prime : FnScope ["prime"] ["prime"] (defScope s_check_prime) := ⟨rfl, rfl, rfl, by decide +kernel, rfl, by decide +kernel, by decide +kernel⟩
def rd_check_prime (cBadBase : Addr) : DS := sIf (dOrT (dNotT (dB (dCall S_is_within (aCons (dVar 0) (aCons (dC (.int 2)) (aCons (dC (.int 1000000)) aNil)))))) (dNotT (dB (dCall S_is_prime (aCons (dVar 0) aNil))))) (sRaise cBadBase) sSkip
theorem tm_check_prime {P : Program} {w : World} {K : PySem.W.Frag} {TB : List (Addr × Str)} {mg : Str → Option Value} {base : Heap} {cBadBase : Addr} {cBadDigits : Addr} {cBadNumber : Addr} {cBadSteps : Addr} {cBadWay : Addr} {cOtherBase : Addr} {cBadReader : Addr} {cTooMany : Addr} (T : Txt K mg cBadBase cBadDigits cBadNumber cBadSteps cBadWay cOtherBase cBadReader cTooMany) (D_is_prime : Dfn P w K mg base "is_prime" 2 (spA K TB 1 S_is_prime)) (D_is_within : Dfn P w K mg base "is_within" 2 (spA K TB 3 S_is_within)) (cdv : Value) (A : Around) (outer : List Env) (s : Shared) (H : Hp) (E : XK) {f : Addr} (hr : Room 2 (A.deeper (envOfC "check_prime" (defScope s_check_prime) s.heap.objs.size f cdv))) :
    PSs (cxOf (L2.CX P w) P w K mg base ["prime"] "check_prime" (defScope s_check_prime) f cdv A outer s H E) (defBody s_check_prime) (upS K TB (fun cls d _ H => E cls d H) (rd_check_prime cBadBase)) := by
  have nd := sc_check_prime.nd
  have tk : Takes (cxOf (L2.CX P w) P w K mg base ["prime"] "check_prime" (defScope s_check_prime) f cdv A outer s H E) (fun cls d _ H => E cls d H) := takes_of rfl rfl rfl rfl
  exact (ds_one (ds_if (L2.PW.pt (dw_or (dt_not (dt_val (dx_def D_is_within tk hr (by decide) l_is_within (da_cons (dx_var 0) (da_cons dx_int (da_cons (dx_globI T.k_MOST_PRIME) da_nil)))))) (dw_or1 (dt_not (dt_val (dx_def D_is_prime tk hr (by decide) l_is_prime (da_cons (dx_var 0) da_nil))))))) (ds_one (ds_raiseC T.e_BadBase tk)) ds_nil))
/-! ### carries_of -/
abbrev s_carries_of : Stmt := topS 23
theorem sc_carries_of : FnScope ["one", "other", "base", "found", "carry"] ["one", "other", "base"] (defScope s_carries_of) := ⟨rfl, rfl, rfl, by decide +kernel, rfl, by decide +kernel, by decide +kernel⟩
def rd_carries_of : DS := (sSeq (sMPar [3, 4] (mN (nF (fLst aNil)) (mD (dC (.int 0)) mNil)))
  (sSeq (sWhile (dOrT (dB (dBin fGt (dVar 0) (dC (.int 0)))) (dOrT (dB (dBin fGt (dVar 1) (dC (.int 0)))) (dB (dBin fGt (dVar 4) (dC (.int 0)))))) (sSeq (sSet 4 (dIfE (dB (dBin fGe (dBin fAdd (dBin fAdd (dBin fMod (dVar 0) (dVar 2)) (dBin fMod (dVar 1) (dVar 2))) (dVar 4)) (dVar 2))) (dC (.int 1)) (dC (.int 0))))
  (sSeq (sApp 3 (dVar 4))
  (sPar 0 1 (aCons (dBin fDiv (dVar 0) (dVar 2)) (aCons (dBin fDiv (dVar 1) (dVar 2)) aNil))))))
  (sRetO 3)))
theorem tm_carries_of {P : Program} {w : World} {K : PySem.W.Frag} {TB : List (Addr × Str)} {mg : Str → Option Value} {base : Heap} {cBadBase : Addr} {cBadDigits : Addr} {cBadNumber : Addr} {cBadSteps : Addr} {cBadWay : Addr} {cOtherBase : Addr} {cBadReader : Addr} {cTooMany : Addr} (T : Txt K mg cBadBase cBadDigits cBadNumber cBadSteps cBadWay cOtherBase cBadReader cTooMany)  (cdv : Value) (A : Around) (outer : List Env) (s : Shared) (H : Hp) (E : XK) {f : Addr} (hr : Room 0 (A.deeper (envOfC "carries_of" (defScope s_carries_of) s.heap.objs.size f cdv))) :
    PSs (cxOf (L2.CX P w) P w K mg base ["one", "other", "base", "found", "carry"] "carries_of" (defScope s_carries_of) f cdv A outer s H E) (defBody s_carries_of) (upS K TB (fun cls d _ H => E cls d H) rd_carries_of) := by
  have nd := sc_carries_of.nd
  have hp : PassesOwn (model P w) (A.deeper (envOfC "carries_of" (defScope s_carries_of) s.heap.objs.size f cdv)) (envOfC "carries_of" (defScope s_carries_of) s.heap.objs.size f cdv) (cxOf (L2.CX P w) P w K mg base ["one", "other", "base", "found", "carry"] "carries_of" (defScope s_carries_of) f cdv A outer s H E).xe := passes_of rfl
  exact (ds_cons (ds_mpar2 (i := 3) (j := 4) rfl nd (dm_n (dn_f (df_lst da_nil)) (dm_d dx_int dm_nil)))
  (ds_cons (ds_while hp (L2.PW.pt (dw_or (dt_gt (dx_var 0) dx_int) (dw_or (dt_gt (dx_var 1) dx_int) (dw_or1 (dt_gt (dx_var 4) dx_int))))) (ds_cons (ds_set (i := 4) nd rfl (.inl rfl) (dx_ifExp (dt_ge (dx_add (dx_add (dx_mod (dx_var 0) (dx_var 2)) (dx_mod (dx_var 1) (dx_var 2))) (dx_var 4)) (dx_var 2)) dx_int dx_int))
  (ds_cons (ds_app 3 (dx_var 4))
  (ds_one (ds_par (i := 0) (j := 1) rfl nd rfl rfl (by decide) rfl rfl (da_cons (dx_div (dx_var 0) (dx_var 2)) (da_cons (dx_div (dx_var 1) (dx_var 2)) da_nil)))))))
  (ds_one (ds_retO 3))))
/-! ### often_in_choices -/
abbrev s_often_in_choices : Stmt := topS 28
theorem sc_often_in_choices : FnScope ["many", "some", "prime"] ["many", "some", "prime"] (defScope s_often_in_choices) := ⟨rfl, rfl, rfl, by decide +kernel, rfl, by decide +kernel, by decide +kernel⟩
def rd_often_in_choices (cBadBase : Addr) (cBadNumber : Addr) : DS := (sSeq (sDrop (dCall (S_check_numbers cBadNumber) (aCons (dTup (aCons (dVar 0) (aCons (dVar 1) aNil))) aNil)))
  (sSeq (sDrop (dCall (S_check_prime cBadBase) (aCons (dVar 2) aNil)))
  (sSeq (sIf (dB (dBin fGt (dVar 1) (dVar 0))) (sRet (dC .non)) sSkip)
  (sRet (dCB gSum (aCons (dCall S_carries_of (aCons (dVar 1) (aCons (dBin fSub (dVar 0) (dVar 1)) (aCons (dVar 2) aNil)))) aNil))))))
theorem tm_often_in_choices {P : Program} {w : World} {K : PySem.W.Frag} {TB : List (Addr × Str)} {mg : Str → Option Value} {base : Heap} {cBadBase : Addr} {cBadDigits : Addr} {cBadNumber : Addr} {cBadSteps : Addr} {cBadWay : Addr} {cOtherBase : Addr} {cBadReader : Addr} {cTooMany : Addr} (T : Txt K mg cBadBase cBadDigits cBadNumber cBadSteps cBadWay cOtherBase cBadReader cTooMany) (D_carries_of : Dfn P w K mg base "carries_of" 1 (spA K TB 3 S_carries_of)) (D_check_numbers : Dfn P w K mg base "check_numbers" 2 (spA K TB 1 (S_check_numbers cBadNumber))) (D_check_prime : Dfn P w K mg base "check_prime" 3 (spA K TB 1 (S_check_prime cBadBase))) (cdv : Value) (A : Around) (outer : List Env) (s : Shared) (H : Hp) (E : XK) {f : Addr} (hr : Room 3 (A.deeper (envOfC "often_in_choices" (defScope s_often_in_choices) s.heap.objs.size f cdv))) :
    PSs (cxOf (L2.CX P w) P w K mg base ["many", "some", "prime"] "often_in_choices" (defScope s_often_in_choices) f cdv A outer s H E) (defBody s_often_in_choices) (upS K TB (fun cls d _ H => E cls d H) (rd_often_in_choices cBadBase cBadNumber)) := by
  have nd := sc_often_in_choices.nd
  have tk : Takes (cxOf (L2.CX P w) P w K mg base ["many", "some", "prime"] "often_in_choices" (defScope s_often_in_choices) f cdv A outer s H E) (fun cls d _ H => E cls d H) := takes_of rfl rfl rfl rfl
  exact (ds_cons (ds_drop (dx_def D_check_numbers tk hr (by decide) l_check_numbers (da_cons (dx_tup (da_cons (dx_var 0) (da_cons (dx_var 1) da_nil))) da_nil)))
  (ds_cons (ds_drop (dx_def D_check_prime tk hr (by decide) l_check_prime (da_cons (dx_var 2) da_nil)))
  (ds_cons (ds_if (dt_gt (dx_var 1) (dx_var 0)) (ds_one (ds_ret dx_non)) ds_nil)
  (ds_one (ds_ret (dx_callB (cr_sum rfl) lc_sum T.z_sum b_sum (da_cons (dx_def D_carries_of tk hr (by decide) l_carries_of (da_cons (dx_var 1) (da_cons (dx_sub (dx_var 0) (dx_var 1)) (da_cons (dx_var 2) da_nil)))) da_nil)))))))
/-! ### often_in_product -/
abbrev s_often_in_product : Stmt := topS 26
theorem sc_often_in_product : FnScope ["number", "prime", "found"] ["number", "prime"] (defScope s_often_in_product) := ⟨rfl, rfl, rfl, by decide +kernel, rfl, by decide +kernel, by decide +kernel⟩
def rd_often_in_product (cBadBase : Addr) (cBadNumber : Addr) : DS := (sSeq (sDrop (dCall (S_check_numbers cBadNumber) (aCons (dTup (aCons (dVar 0) aNil)) aNil)))
  (sSeq (sDrop (dCall (S_check_prime cBadBase) (aCons (dVar 1) aNil)))
  (sSeq (sSet 2 (dC (.int 0)))
  (sSeq (sWhile (dB (dBin fGt (dVar 0) (dC (.int 0)))) (sSeq (sSet 0 (dBin fDiv (dVar 0) (dVar 1)))
  (sSet 2 (dBin fAdd (dVar 2) (dVar 0)))))
  (sRet (dVar 2))))))
theorem tm_often_in_product {P : Program} {w : World} {K : PySem.W.Frag} {TB : List (Addr × Str)} {mg : Str → Option Value} {base : Heap} {cBadBase : Addr} {cBadDigits : Addr} {cBadNumber : Addr} {cBadSteps : Addr} {cBadWay : Addr} {cOtherBase : Addr} {cBadReader : Addr} {cTooMany : Addr} (T : Txt K mg cBadBase cBadDigits cBadNumber cBadSteps cBadWay cOtherBase cBadReader cTooMany) (D_check_numbers : Dfn P w K mg base "check_numbers" 2 (spA K TB 1 (S_check_numbers cBadNumber))) (D_check_prime : Dfn P w K mg base "check_prime" 3 (spA K TB 1 (S_check_prime cBadBase))) (cdv : Value) (A : Around) (outer : List Env) (s : Shared) (H : Hp) (E : XK) {f : Addr} (hr : Room 3 (A.deeper (envOfC "often_in_product" (defScope s_often_in_product) s.heap.objs.size f cdv))) :
    PSs (cxOf (L2.CX P w) P w K mg base ["number", "prime", "found"] "often_in_product" (defScope s_often_in_product) f cdv A outer s H E) (defBody s_often_in_product) (upS K TB (fun cls d _ H => E cls d H) (rd_often_in_product cBadBase cBadNumber)) := by
  have nd := sc_often_in_product.nd
  have tk : Takes (cxOf (L2.CX P w) P w K mg base ["number", "prime", "found"] "often_in_product" (defScope s_often_in_product) f cdv A outer s H E) (fun cls d _ H => E cls d H) := takes_of rfl rfl rfl rfl
  have hp : PassesOwn (model P w) (A.deeper (envOfC "often_in_product" (defScope s_often_in_product) s.heap.objs.size f cdv)) (envOfC "often_in_product" (defScope s_often_in_product) s.heap.objs.size f cdv) (cxOf (L2.CX P w) P w K mg base ["number", "prime", "found"] "often_in_product" (defScope s_often_in_product) f cdv A outer s H E).xe := passes_of rfl
  exact (ds_cons (ds_drop (dx_def D_check_numbers tk hr (by decide) l_check_numbers (da_cons (dx_tup (da_cons (dx_var 0) da_nil)) da_nil)))
  (ds_cons (ds_drop (dx_def D_check_prime tk hr (by decide) l_check_prime (da_cons (dx_var 1) da_nil)))
  (ds_cons (ds_set (i := 2) nd rfl (.inl rfl) dx_int)
  (ds_cons (ds_while hp (dt_gt (dx_var 0) dx_int) (ds_cons (ds_set (i := 0) nd rfl (.inl rfl) (dx_div (dx_var 0) (dx_var 1)))
  (ds_one (ds_set (i := 2) nd rfl (.inl rfl) (dx_add (dx_var 2) (dx_var 0))))))
  (ds_one (ds_ret (dx_var 2)))))))
/-! ### product_to -/
abbrev s_product_to : Stmt := topS 3
theorem sc_product_to : FnScope ["number", "found", "at"] ["number"] (defScope s_product_to) := ⟨rfl, rfl, rfl, by decide +kernel, rfl, by decide +kernel, by decide +kernel⟩
def rd_product_to : DS := (sSeq (sSet 1 (dC (.int 1)))
  (sSeq (sFor (iR2 (aCons (dC (.int 2)) (aCons (dBin fAdd (dVar 0) (dC (.int 1))) aNil))) (gN 2) (sSet 1 (dBin fMul (dVar 1) (dVar 2))))
  (sRet (dVar 1))))
theorem tm_product_to {P : Program} {w : World} {K : PySem.W.Frag} {TB : List (Addr × Str)} {mg : Str → Option Value} {base : Heap} {cBadBase : Addr} {cBadDigits : Addr} {cBadNumber : Addr} {cBadSteps : Addr} {cBadWay : Addr} {cOtherBase : Addr} {cBadReader : Addr} {cTooMany : Addr} (T : Txt K mg cBadBase cBadDigits cBadNumber cBadSteps cBadWay cOtherBase cBadReader cTooMany)  (cdv : Value) (A : Around) (outer : List Env) (s : Shared) (H : Hp) (E : XK) {f : Addr} (hr : Room 0 (A.deeper (envOfC "product_to" (defScope s_product_to) s.heap.objs.size f cdv))) :
    PSs (cxOf (L2.CX P w) P w K mg base ["number", "found", "at"] "product_to" (defScope s_product_to) f cdv A outer s H E) (defBody s_product_to) (upS K TB (fun cls d _ H => E cls d H) rd_product_to) := by
  have nd := sc_product_to.nd
  have hp : PassesOwn (model P w) (A.deeper (envOfC "product_to" (defScope s_product_to) s.heap.objs.size f cdv)) (envOfC "product_to" (defScope s_product_to) s.heap.objs.size f cdv) (cxOf (L2.CX P w) P w K mg base ["number", "found", "at"] "product_to" (defScope s_product_to) f cdv A outer s H E).xe := passes_of rfl
  exact (ds_cons (ds_set (i := 1) nd rfl (.inl rfl) dx_int)
  (ds_cons (ds_for hp rfl (di_r2 T.z_range (da_cons dx_int (da_cons (dx_add (dx_var 0) dx_int) da_nil))) (dg_n (i := 2) (vs := [2]) (by decide) nd rfl (.inl rfl)) (ds_one (ds_set (i := 1) nd rfl (.inl rfl) (dx_mul (dx_var 1) (dx_var 2)))))
  (ds_one (ds_ret (dx_var 1)))))
/-! ### rest_of_product -/
abbrev s_rest_of_product : Stmt := topS 29
theorem sc_rest_of_product : FnScope ["number", "prime", "found", "here"] ["number", "prime"] (defScope s_rest_of_product) := ⟨rfl, rfl, rfl, by decide +kernel, rfl, by decide +kernel, by decide +kernel⟩
def rd_rest_of_product (cBadBase : Addr) (cBadNumber : Addr) : DS := (sSeq (sDrop (dCall (S_check_numbers cBadNumber) (aCons (dTup (aCons (dVar 0) aNil)) aNil)))
  (sSeq (sDrop (dCall (S_check_prime cBadBase) (aCons (dVar 1) aNil)))
  (sSeq (sIf (dB (dBin fGt (dVar 1) (dC (.int 2000)))) (sRaise cBadBase) sSkip)
  (sSeq (sPar 2 3 (aCons (dC (.int 1)) (aCons (dVar 0) aNil)))
  (sSeq (sWhile (dB (dBin fGt (dVar 3) (dC (.int 0)))) (sSeq (sSet 2 (dBin fMod (dBin fMul (dVar 2) (dBin fMod (dCall S_product_to (aCons (dBin fMod (dVar 3) (dVar 1)) aNil)) (dVar 1))) (dVar 1)))
  (sCut (sIf (dAndT (dB (dBin fEq (dBin fMod (dBin fDiv (dVar 3) (dVar 1)) (dC (.int 2))) (dC (.int 1)))) (dB (dBin fGt (dVar 1) (dC (.int 2))))) (sSet 2 (dBin fSub (dVar 1) (dVar 2))) sSkip)
  (sSet 3 (dBin fDiv (dVar 3) (dVar 1))))))
  (sRet (dBin fMod (dVar 2) (dVar 1))))))))
theorem tm_rest_of_product {P : Program} {w : World} {K : PySem.W.Frag} {TB : List (Addr × Str)} {mg : Str → Option Value} {base : Heap} {cBadBase : Addr} {cBadDigits : Addr} {cBadNumber : Addr} {cBadSteps : Addr} {cBadWay : Addr} {cOtherBase : Addr} {cBadReader : Addr} {cTooMany : Addr} (T : Txt K mg cBadBase cBadDigits cBadNumber cBadSteps cBadWay cOtherBase cBadReader cTooMany) (D_check_numbers : Dfn P w K mg base "check_numbers" 2 (spA K TB 1 (S_check_numbers cBadNumber))) (D_check_prime : Dfn P w K mg base "check_prime" 3 (spA K TB 1 (S_check_prime cBadBase))) (D_product_to : Dfn P w K mg base "product_to" 1 (spA K TB 1 S_product_to)) (cdv : Value) (A : Around) (outer : List Env) (s : Shared) (H : Hp) (E : XK) {f : Addr} (hr : Room 3 (A.deeper (envOfC "rest_of_product" (defScope s_rest_of_product) s.heap.objs.size f cdv))) :
    PSs (cxOf (L2.CX P w) P w K mg base ["number", "prime", "found", "here"] "rest_of_product" (defScope s_rest_of_product) f cdv A outer s H E) (defBody s_rest_of_product) (upS K TB (fun cls d _ H => E cls d H) (rd_rest_of_product cBadBase cBadNumber)) := by
  have nd := sc_rest_of_product.nd
  have tk : Takes (cxOf (L2.CX P w) P w K mg base ["number", "prime", "found", "here"] "rest_of_product" (defScope s_rest_of_product) f cdv A outer s H E) (fun cls d _ H => E cls d H) := takes_of rfl rfl rfl rfl
  have hp : PassesOwn (model P w) (A.deeper (envOfC "rest_of_product" (defScope s_rest_of_product) s.heap.objs.size f cdv)) (envOfC "rest_of_product" (defScope s_rest_of_product) s.heap.objs.size f cdv) (cxOf (L2.CX P w) P w K mg base ["number", "prime", "found", "here"] "rest_of_product" (defScope s_rest_of_product) f cdv A outer s H E).xe := passes_of rfl
  exact (ds_cons (ds_drop (dx_def D_check_numbers tk hr (by decide) l_check_numbers (da_cons (dx_tup (da_cons (dx_var 0) da_nil)) da_nil)))
  (ds_cons (ds_drop (dx_def D_check_prime tk hr (by decide) l_check_prime (da_cons (dx_var 1) da_nil)))
  (ds_cons (ds_if (dt_gt (dx_var 1) dx_int) (ds_one (ds_raiseC T.e_BadBase tk)) ds_nil)
  (ds_cons (ds_par (i := 2) (j := 3) rfl nd rfl rfl (by decide) rfl rfl (da_cons dx_int (da_cons (dx_var 0) da_nil)))
  (ds_cons (ds_while hp (dt_gt (dx_var 3) dx_int) (ds_cons (ds_set (i := 2) nd rfl (.inl rfl) (dx_mod (dx_mul (dx_var 2) (dx_mod (dx_def D_product_to tk hr (by decide) l_product_to (da_cons (dx_mod (dx_var 3) (dx_var 1)) da_nil)) (dx_var 1))) (dx_var 1)))
  (ds_cut (ds_if (L2.PW.pt (dw_and (dt_eq hr.units (dx_mod (dx_div (dx_var 3) (dx_var 1)) dx_int) dx_int) (dw_and1 (dt_gt (dx_var 1) dx_int)))) (ds_one (ds_set (i := 2) nd rfl (.inl rfl) (dx_sub (dx_var 1) (dx_var 2)))) ds_nil)
  (ds_one (ds_set (i := 3) nd rfl (.inl rfl) (dx_div (dx_var 3) (dx_var 1)))))))
  (ds_one (ds_ret (dx_mod (dx_var 2) (dx_var 1)))))))))
/-! ### last_figure_of_product -/
abbrev s_last_figure_of_product : Stmt := topS 30
theorem sc_last_figure_of_product : FnScope ["number", "fives", "twos", "by_five", "half", "rest"] ["number"] (defScope s_last_figure_of_product) := ⟨rfl, rfl, rfl, by decide +kernel, rfl, by decide +kernel, by decide +kernel⟩
def rd_last_figure_of_product (cBadBase : Addr) (cBadNumber : Addr) : DS := (sSeq (sDrop (dCall (S_check_numbers cBadNumber) (aCons (dTup (aCons (dVar 0) aNil)) aNil)))
  (sSeq (sPar 1 2 (aCons (dCall (S_often_in_product cBadBase cBadNumber) (aCons (dVar 0) (aCons (dC (.int 5)) aNil))) (aCons (dCall (S_often_in_product cBadBase cBadNumber) (aCons (dVar 0) (aCons (dC (.int 2)) aNil))) aNil)))
  (sSeq (sSet 3 (dCall (S_rest_of_product cBadBase cBadNumber) (aCons (dVar 0) (aCons (dC (.int 5)) aNil))))
  (sSeq (sSet 4 (dDicI [(0, 1), (1, 3), (2, 4), (3, 2)] (dBin fMod (dVar 1) (dC (.int 4)))))
  (sSeq (sSet 5 (dBin fMod (dBin fMul (dVar 3) (dVar 4)) (dC (.int 5))))
  (sSeq (sIf (dB (dBin fEq (dVar 2) (dVar 1))) (sRet (dIfE (dB (dBin fEq (dBin fMod (dVar 5) (dC (.int 2))) (dC (.int 1)))) (dVar 5) (dBin fAdd (dVar 5) (dC (.int 5))))) sSkip)
  (sRet (dIfE (dB (dBin fEq (dBin fMod (dVar 5) (dC (.int 2))) (dC (.int 0)))) (dVar 5) (dBin fAdd (dVar 5) (dC (.int 5)))))))))))
theorem tm_last_figure_of_product {P : Program} {w : World} {K : PySem.W.Frag} {TB : List (Addr × Str)} {mg : Str → Option Value} {base : Heap} {cBadBase : Addr} {cBadDigits : Addr} {cBadNumber : Addr} {cBadSteps : Addr} {cBadWay : Addr} {cOtherBase : Addr} {cBadReader : Addr} {cTooMany : Addr} (T : Txt K mg cBadBase cBadDigits cBadNumber cBadSteps cBadWay cOtherBase cBadReader cTooMany) (D_check_numbers : Dfn P w K mg base "check_numbers" 2 (spA K TB 1 (S_check_numbers cBadNumber))) (D_often_in_product : Dfn P w K mg base "often_in_product" 4 (spA K TB 2 (S_often_in_product cBadBase cBadNumber))) (D_rest_of_product : Dfn P w K mg base "rest_of_product" 4 (spA K TB 2 (S_rest_of_product cBadBase cBadNumber))) (cdv : Value) (A : Around) (outer : List Env) (s : Shared) (H : Hp) (E : XK) {f : Addr} (hr : Room 4 (A.deeper (envOfC "last_figure_of_product" (defScope s_last_figure_of_product) s.heap.objs.size f cdv))) :
    PSs (cxOf (L2.CX P w) P w K mg base ["number", "fives", "twos", "by_five", "half", "rest"] "last_figure_of_product" (defScope s_last_figure_of_product) f cdv A outer s H E) (defBody s_last_figure_of_product) (upS K TB (fun cls d _ H => E cls d H) (rd_last_figure_of_product cBadBase cBadNumber)) := by
  have nd := sc_last_figure_of_product.nd
  have tk : Takes (cxOf (L2.CX P w) P w K mg base ["number", "fives", "twos", "by_five", "half", "rest"] "last_figure_of_product" (defScope s_last_figure_of_product) f cdv A outer s H E) (fun cls d _ H => E cls d H) := takes_of rfl rfl rfl rfl
  exact (ds_cons (ds_drop (dx_def D_check_numbers tk hr (by decide) l_check_numbers (da_cons (dx_tup (da_cons (dx_var 0) da_nil)) da_nil)))
  (ds_cons (ds_par (i := 1) (j := 2) rfl nd rfl rfl (by decide) rfl rfl (da_cons (dx_def D_often_in_product tk hr (by decide) l_often_in_product (da_cons (dx_var 0) (da_cons dx_int da_nil))) (da_cons (dx_def D_often_in_product tk hr (by decide) l_often_in_product (da_cons (dx_var 0) (da_cons dx_int da_nil))) da_nil)))
  (ds_cons (ds_set (i := 3) nd rfl (.inl rfl) (dx_def D_rest_of_product tk hr (by decide) l_rest_of_product (da_cons (dx_var 0) (da_cons dx_int da_nil))))
  (ds_cons (ds_set (i := 4) nd rfl (.inl rfl) (dx_dicI (kvs := [(0, 1), (1, 3), (2, 4), (3, 2)]) (hu_of hr) (pps_cons pe_int pe_int (pps_cons pe_int pe_int (pps_cons pe_int pe_int (pps_cons pe_int pe_int pps_nil)))) (dx_mod (dx_var 1) dx_int)))
  (ds_cons (ds_set (i := 5) nd rfl (.inl rfl) (dx_mod (dx_mul (dx_var 3) (dx_var 4)) dx_int))
  (ds_cons (ds_if (dt_eq hr.units (dx_var 2) (dx_var 1)) (ds_one (ds_ret (dx_ifExp (dt_eq hr.units (dx_mod (dx_var 5) dx_int) dx_int) (dx_var 5) (dx_add (dx_var 5) dx_int)))) ds_nil)
  (ds_one (ds_ret (dx_ifExp (dt_eq hr.units (dx_mod (dx_var 5) dx_int) dx_int) (dx_var 5) (dx_add (dx_var 5) dx_int))))))))))
/-! ### zeros_of_product -/
abbrev s_zeros_of_product : Stmt := topS 31
theorem sc_zeros_of_product : FnScope ["number", "base", "found", "rest", "prime", "often", "told"] ["number", "base"] (defScope s_zeros_of_product) := ⟨rfl, rfl, rfl, by decide +kernel, rfl, by decide +kernel, by decide +kernel⟩
def rd_zeros_of_product (cBadBase : Addr) (cBadNumber : Addr) : DS := (sSeq (sDrop (dCall (S_check_numbers cBadNumber) (aCons (dTup (aCons (dVar 0) aNil)) aNil)))
  (sSeq (sIf (dNotT (dB (dCall S_is_within (aCons (dVar 1) (aCons (dC (.int 2)) (aCons (dC (.int 1000000)) aNil)))))) (sRaise cBadBase) sSkip)
  (sSeq (sPar3 2 3 4 (aCons (dC .non) (aCons (dVar 1) (aCons (dC (.int 2)) aNil))))
  (sSeq (sWhile (dB (dBin fGt (dVar 3) (dC (.int 1)))) (sSeq (sSet 5 (dC (.int 0)))
  (sSeq (sWhile (dB (dBin fEq (dBin fMod (dVar 3) (dVar 4)) (dC (.int 0)))) (sPar 3 5 (aCons (dBin fDiv (dVar 3) (dVar 4)) (aCons (dBin fAdd (dVar 5) (dC (.int 1))) aNil))))
  (sCut (sIf (dB (dBin fGt (dVar 5) (dC (.int 0)))) (sSeq (sSet 6 (dBin fDiv (dCall (S_often_in_product cBadBase cBadNumber) (aCons (dVar 0) (aCons (dVar 4) aNil))) (dVar 5)))
  (sSet 2 (dIfE (dB (dBin fIs (dVar 2) (dC .non))) (dVar 6) (dCB gMin2 (aCons (dVar 2) (aCons (dVar 6) aNil)))))) sSkip)
  (sSet 4 (dIfE (dB (dBin fLe (dBin fMul (dVar 4) (dVar 4)) (dVar 3))) (dBin fAdd (dVar 4) (dC (.int 1))) (dCB gMax2 (aCons (dVar 3) (aCons (dBin fAdd (dVar 4) (dC (.int 1))) aNil)))))))))
  (sRet (dVar 2))))))
theorem tm_zeros_of_product {P : Program} {w : World} {K : PySem.W.Frag} {TB : List (Addr × Str)} {mg : Str → Option Value} {base : Heap} {cBadBase : Addr} {cBadDigits : Addr} {cBadNumber : Addr} {cBadSteps : Addr} {cBadWay : Addr} {cOtherBase : Addr} {cBadReader : Addr} {cTooMany : Addr} (T : Txt K mg cBadBase cBadDigits cBadNumber cBadSteps cBadWay cOtherBase cBadReader cTooMany) (D_check_numbers : Dfn P w K mg base "check_numbers" 2 (spA K TB 1 (S_check_numbers cBadNumber))) (D_is_within : Dfn P w K mg base "is_within" 2 (spA K TB 3 S_is_within)) (D_often_in_product : Dfn P w K mg base "often_in_product" 4 (spA K TB 2 (S_often_in_product cBadBase cBadNumber))) (cdv : Value) (A : Around) (outer : List Env) (s : Shared) (H : Hp) (E : XK) {f : Addr} (hr : Room 4 (A.deeper (envOfC "zeros_of_product" (defScope s_zeros_of_product) s.heap.objs.size f cdv))) :
    PSs (cxOf (L2.CX P w) P w K mg base ["number", "base", "found", "rest", "prime", "often", "told"] "zeros_of_product" (defScope s_zeros_of_product) f cdv A outer s H E) (defBody s_zeros_of_product) (upS K TB (fun cls d _ H => E cls d H) (rd_zeros_of_product cBadBase cBadNumber)) := by
  have nd := sc_zeros_of_product.nd
  have tk : Takes (cxOf (L2.CX P w) P w K mg base ["number", "base", "found", "rest", "prime", "often", "told"] "zeros_of_product" (defScope s_zeros_of_product) f cdv A outer s H E) (fun cls d _ H => E cls d H) := takes_of rfl rfl rfl rfl
  have hp : PassesOwn (model P w) (A.deeper (envOfC "zeros_of_product" (defScope s_zeros_of_product) s.heap.objs.size f cdv)) (envOfC "zeros_of_product" (defScope s_zeros_of_product) s.heap.objs.size f cdv) (cxOf (L2.CX P w) P w K mg base ["number", "base", "found", "rest", "prime", "often", "told"] "zeros_of_product" (defScope s_zeros_of_product) f cdv A outer s H E).xe := passes_of rfl
  exact (ds_cons (ds_drop (dx_def D_check_numbers tk hr (by decide) l_check_numbers (da_cons (dx_tup (da_cons (dx_var 0) da_nil)) da_nil)))
  (ds_cons (ds_if (dt_not (dt_val (dx_def D_is_within tk hr (by decide) l_is_within (da_cons (dx_var 1) (da_cons dx_int (da_cons (dx_globI T.k_MOST_PRIME) da_nil)))))) (ds_one (ds_raiseC T.e_BadBase tk)) ds_nil)
  (ds_cons (ds_par3 (i0 := 2) (i1 := 3) (i2 := 4) rfl nd (da_cons dx_non (da_cons (dx_var 1) (da_cons dx_int da_nil))))
  (ds_cons (ds_while hp (dt_gt (dx_var 3) dx_int) (ds_cons (ds_set (i := 5) nd rfl (.inl rfl) dx_int)
  (ds_cons (ds_while hp (dt_eq hr.units (dx_mod (dx_var 3) (dx_var 4)) dx_int) (ds_one (ds_par (i := 3) (j := 5) rfl nd rfl rfl (by decide) rfl rfl (da_cons (dx_div (dx_var 3) (dx_var 4)) (da_cons (dx_add (dx_var 5) dx_int) da_nil)))))
  (ds_cut (ds_if (dt_gt (dx_var 5) dx_int) (ds_cons (ds_set (i := 6) nd rfl (.inl rfl) (dx_div (dx_def D_often_in_product tk hr (by decide) l_often_in_product (da_cons (dx_var 0) (da_cons (dx_var 4) da_nil))) (dx_var 5)))
  (ds_one (ds_set (i := 2) nd rfl (.inl rfl) (dx_ifExp (dt_is (dx_var 2) dx_non) (dx_var 6) (dx_callB (call_min2 rfl) lc_min2 T.z_min b_min (da_cons (dx_var 2) (da_cons (dx_var 6) da_nil))))))) ds_nil)
  (ds_one (ds_set (i := 4) nd rfl (.inl rfl) (dx_ifExp (dt_le (dx_mul (dx_var 4) (dx_var 4)) (dx_var 3)) (dx_add (dx_var 4) dx_int) (dx_callB (call_max2 rfl) lc_max2 T.z_max b_max (da_cons (dx_var 3) (da_cons (dx_add (dx_var 4) dx_int) da_nil))))))))))
  (ds_one (ds_ret (dx_var 2)))))))
/-! ### _law_hand -/
abbrev s__law_hand : Stmt := topS 33
theorem sc__law_hand : FnScope ["script", "cells", "cell"] ["script"] (defScope s__law_hand) := ⟨rfl, rfl, rfl, by decide +kernel, rfl, by decide +kernel, by decide +kernel⟩
def rd__law_hand : DS := (sSeq (sSet 1 (dF (fLc (iSeq (dSl (dVar 0) oNone (oSome (dC (.int 63))))) (gN 2) tYesD (dCB gAbs (aCons (dCB gInt (aCons (dVar 2) aNil)) aNil)) [2])))
  (sRetF (fLst (aCons (dVar 1) (aCons (dC (.int 0)) (aCons (dC (.int 0)) (aCons (dBin fAdd (dC (.int 61)) (dBin fMul (dC (.int 7)) (dCB gLen (aCons (dVar 1) aNil)))) (aCons (dC (.int 0)) aNil))))))))
theorem tm__law_hand {P : Program} {w : World} {K : PySem.W.Frag} {TB : List (Addr × Str)} {mg : Str → Option Value} {base : Heap} {cBadBase : Addr} {cBadDigits : Addr} {cBadNumber : Addr} {cBadSteps : Addr} {cBadWay : Addr} {cOtherBase : Addr} {cBadReader : Addr} {cTooMany : Addr} (T : Txt K mg cBadBase cBadDigits cBadNumber cBadSteps cBadWay cOtherBase cBadReader cTooMany)  (cdv : Value) (A : Around) (outer : List Env) (s : Shared) (H : Hp) (E : XK) {f : Addr} (hr : Room 0 (A.deeper (envOfC "_law_hand" (defScope s__law_hand) s.heap.objs.size f cdv))) :
    PSs (cxOf (L2.CX P w) P w K mg base ["script", "cells", "cell"] "_law_hand" (defScope s__law_hand) f cdv A outer s H E) (defBody s__law_hand) (upS K TB (fun cls d _ H => E cls d H) rd__law_hand) := by
  have nd := sc__law_hand.nd
  exact (ds_cons (ds_setLc (i := 1) (own := [("cell", 2)]) rfl nd rfl rfl (sw_true rfl rfl rfl (by decide +kernel)) (by decide) (di_seq (dx_sl (dx_var 0) do_none (do_some dx_int))) (blkOk_by (N := ["script", "cells", "cell"]) (sc := defScope s__law_hand) (by decide +kernel)) (fun _ _ _ _ _ => (dg_n (i := 2) (vs := [2]) (by decide) nd rfl (.inl rfl))) (fun _ _ _ _ _ => dts_nil) (fun _ _ _ _ _ => (dx_callB call_abs lc_abs T.z_abs b_abs (da_cons (dx_callTy call_int1 lc_int T.z_int b_int (da_cons (dx_var 2) da_nil)) da_nil))))
  (ds_one (ds_retF (df_lst (da_cons (dx_var 1) (da_cons dx_int (da_cons dx_int (da_cons (dx_add dx_int (dx_mul dx_int (dx_callB (CallR.or call_len_seq call_len_str) lc_len T.z_len b_len (da_cons (dx_var 1) da_nil)))) (da_cons dx_int da_nil)))))))))
/-! ### _law_is -/
abbrev s__law_is : Stmt := topS 36
theorem sc__law_is : FnScope ["answer", "due", "one", "other"] ["answer", "due"] (defScope s__law_is) := ⟨rfl, rfl, rfl, by decide +kernel, rfl, by decide +kernel, by decide +kernel⟩
theorem tm__law_is {P : Program} {w : World} {K : PySem.W.Frag} {TB : List (Addr × Str)} {mg : Str → Option Value} {base : Heap} {cBadBase : Addr} {cBadDigits : Addr} {cBadNumber : Addr} {cBadSteps : Addr} {cBadWay : Addr} {cOtherBase : Addr} {cBadReader : Addr} {cTooMany : Addr} (T : Txt K mg cBadBase cBadDigits cBadNumber cBadSteps cBadWay cOtherBase cBadReader cTooMany) {rn rk : Nat} (hk : 0 ≤ rk) (D__law_is : Dfn P w K mg base "_law_is" rk (spA K TB 2 (S__law_is rn))) (cdv : Value) (A : Around) (outer : List Env) (s : Shared) (H : Hp) (E : XK) {f : Addr} (hr : Room rk (A.deeper (envOfC "_law_is" (defScope s__law_is) s.heap.objs.size f cdv))) :
    PSs (cxOf (L2.CX P w) P w K mg base ["answer", "due", "one", "other"] "_law_is" (defScope s__law_is) f cdv A outer s H E) (defBody s__law_is) (upS K TB (fun cls d _ H => E cls d H) (rd__law_is rn )) := by
  have nd := sc__law_is.nd
  exact (ds_cons (ds_if (L2.PW.pt (dw_or (dt_is (dx_var 1) dx_non) (dw_or1 (dt_is (dx_var 0) dx_non)))) (ds_one (ds_ret (dx_and (dx_is (dx_var 1) dx_non) (dx_one (dx_is (dx_var 0) dx_non))))) ds_nil)
  (ds_cons (ds_if (dt_val (dx_isT (L := ["tuple", "list"]) (by decide) T.z_isinstance (dx_var 1) (pt_cons T.z_tuple b_tuple (pt_cons T.z_list b_list pt_nil)))) (ds_cons (ds_if (L2.PW.pt (dw_or (dt_ne hr.units (dx_callB call_isi (lc_isi (by decide)) T.z_isinstance b_isinstance (da_cons (dx_var 0) (da_cons (dx_ty T.z_tuple b_tuple) da_nil))) (dx_callB call_isi (lc_isi (by decide)) T.z_isinstance b_isinstance (da_cons (dx_var 1) (da_cons (dx_ty T.z_tuple b_tuple) da_nil)))) (dw_or1 (dt_ne hr.units (dx_callB call_isi (lc_isi (by decide)) T.z_isinstance b_isinstance (da_cons (dx_var 0) (da_cons (dx_ty T.z_list b_list) da_nil))) (dx_callB call_isi (lc_isi (by decide)) T.z_isinstance b_isinstance (da_cons (dx_var 1) (da_cons (dx_ty T.z_list b_list) da_nil))))))) (ds_one (ds_ret dx_bl)) ds_nil)
  (ds_one (ds_ret (dx_and (dx_eq hr.units (dx_callB (CallR.or call_len_seq call_len_str) lc_len T.z_len b_len (da_cons (dx_var 0) da_nil)) (dx_callB (CallR.or call_len_seq call_len_str) lc_len T.z_len b_len (da_cons (dx_var 1) da_nil))) (dx_one (dx_callB (cr_all rfl) lc_all T.z_all b_all (da_cons (dx_f (df_lc (own := [("one", 2), ("other", 3)]) rfl nd (by decide) (di_zip T.z_zip (da_cons (dx_var 0) (da_cons (dx_var 1) da_nil))) (blkOk_by (N := ["answer", "due", "one", "other"]) (sc := defScope s__law_is) (by decide +kernel)) (fun _ _ _ _ _ => (dg_t rfl (dgs_cons (i := 2) (vs := [2, 3]) (by decide) nd rfl (.inl rfl) (dgs_cons (i := 3) (vs := [2, 3]) (by decide) nd rfl (.inl rfl) dgs_nil)))) (fun _ _ _ _ _ => dts_nil) (fun _ _ _ _ _ => (dx_def D__law_is takesF hr (by omega) l__law_is (da_cons (dx_var 2) (da_cons (dx_var 3) da_nil)))))) da_nil))))))) ds_nil)
  (ds_cons (ds_if (L2.PW.pt (dw_or (dt_ne hr.units (dx_callB call_isi (lc_isi (by decide)) T.z_isinstance b_isinstance (da_cons (dx_var 0) (da_cons (dx_ty T.z_bool b_bool) da_nil))) (dx_callB call_isi (lc_isi (by decide)) T.z_isinstance b_isinstance (da_cons (dx_var 1) (da_cons (dx_ty T.z_bool b_bool) da_nil)))) (dw_or1 (dt_ne hr.units (dx_callB call_isi (lc_isi (by decide)) T.z_isinstance b_isinstance (da_cons (dx_var 0) (da_cons (dx_ty T.z_int b_int) da_nil))) (dx_callB call_isi (lc_isi (by decide)) T.z_isinstance b_isinstance (da_cons (dx_var 1) (da_cons (dx_ty T.z_int b_int) da_nil))))))) (ds_one (ds_ret dx_bl)) ds_nil)
  (ds_one (ds_ret (dx_and (dx_eq hr.units (dx_callB call_isi (lc_isi (by decide)) T.z_isinstance b_isinstance (da_cons (dx_var 0) (da_cons (dx_ty T.z_str b_str) da_nil))) (dx_callB call_isi (lc_isi (by decide)) T.z_isinstance b_isinstance (da_cons (dx_var 1) (da_cons (dx_ty T.z_str b_str) da_nil)))) (dx_one (dx_eq hr.units (dx_var 0) (dx_var 1)))))))))
/-! ### carry_number -/
abbrev s_carry_number : Stmt := topS 24
theorem sc_carry_number : FnScope ["one", "other", "base"] ["one", "other", "base"] (defScope s_carry_number) := ⟨rfl, rfl, rfl, by decide +kernel, rfl, by decide +kernel, by decide +kernel⟩
def rd_carry_number (cBadBase : Addr) (cBadNumber : Addr) : DS := (sSeq (sDrop (dCall (S_check_numbers cBadNumber) (aCons (dTup (aCons (dVar 0) (aCons (dVar 1) aNil))) aNil)))
  (sSeq (sIf (dNotT (dB (dCall S_is_within (aCons (dVar 2) (aCons (dC (.int 2)) (aCons (dC (.int 1000000)) aNil)))))) (sRaise cBadBase) sSkip)
  (sRet (dCB gSum (aCons (dCall S_carries_of (aCons (dVar 0) (aCons (dVar 1) (aCons (dVar 2) aNil)))) aNil)))))
theorem tm_carry_number {P : Program} {w : World} {K : PySem.W.Frag} {TB : List (Addr × Str)} {mg : Str → Option Value} {base : Heap} {cBadBase : Addr} {cBadDigits : Addr} {cBadNumber : Addr} {cBadSteps : Addr} {cBadWay : Addr} {cOtherBase : Addr} {cBadReader : Addr} {cTooMany : Addr} (T : Txt K mg cBadBase cBadDigits cBadNumber cBadSteps cBadWay cOtherBase cBadReader cTooMany) (D_carries_of : Dfn P w K mg base "carries_of" 1 (spA K TB 3 S_carries_of)) (D_check_numbers : Dfn P w K mg base "check_numbers" 2 (spA K TB 1 (S_check_numbers cBadNumber))) (D_is_within : Dfn P w K mg base "is_within" 2 (spA K TB 3 S_is_within)) (cdv : Value) (A : Around) (outer : List Env) (s : Shared) (H : Hp) (E : XK) {f : Addr} (hr : Room 2 (A.deeper (envOfC "carry_number" (defScope s_carry_number) s.heap.objs.size f cdv))) :
    PSs (cxOf (L2.CX P w) P w K mg base ["one", "other", "base"] "carry_number" (defScope s_carry_number) f cdv A outer s H E) (defBody s_carry_number) (upS K TB (fun cls d _ H => E cls d H) (rd_carry_number cBadBase cBadNumber)) := by
  have nd := sc_carry_number.nd
  have tk : Takes (cxOf (L2.CX P w) P w K mg base ["one", "other", "base"] "carry_number" (defScope s_carry_number) f cdv A outer s H E) (fun cls d _ H => E cls d H) := takes_of rfl rfl rfl rfl
  exact (ds_cons (ds_drop (dx_def D_check_numbers tk hr (by decide) l_check_numbers (da_cons (dx_tup (da_cons (dx_var 0) (da_cons (dx_var 1) da_nil))) da_nil)))
  (ds_cons (ds_if (dt_not (dt_val (dx_def D_is_within tk hr (by decide) l_is_within (da_cons (dx_var 2) (da_cons dx_int (da_cons (dx_globI T.k_MOST_PRIME) da_nil)))))) (ds_one (ds_raiseC T.e_BadBase tk)) ds_nil)
  (ds_one (ds_ret (dx_callB (cr_sum rfl) lc_sum T.z_sum b_sum (da_cons (dx_def D_carries_of tk hr (by decide) l_carries_of (da_cons (dx_var 0) (da_cons (dx_var 1) (da_cons (dx_var 2) da_nil)))) da_nil))))))
/-! ### often_in -/
abbrev s_often_in : Stmt := topS 25
theorem sc_often_in : FnScope ["number", "prime", "found"] ["number", "prime"] (defScope s_often_in) := ⟨rfl, rfl, rfl, by decide +kernel, rfl, by decide +kernel, by decide +kernel⟩
def rd_often_in (cBadBase : Addr) (cBadNumber : Addr) : DS := (sSeq (sIf (dOrT (dNotT (dB (dCall S_is_integer (aCons (dVar 0) aNil)))) (dNotT (dB (dChain fLe fLe (dC (.int 1)) (dVar 0) (dC (.int 1000000000000000000000000000000000000000000000000000000000000)))))) (sRaise cBadNumber) sSkip)
  (sSeq (sDrop (dCall (S_check_prime cBadBase) (aCons (dVar 1) aNil)))
  (sSeq (sSet 2 (dC (.int 0)))
  (sSeq (sWhile (dB (dBin fEq (dBin fMod (dVar 0) (dVar 1)) (dC (.int 0)))) (sPar 2 0 (aCons (dBin fAdd (dVar 2) (dC (.int 1))) (aCons (dBin fDiv (dVar 0) (dVar 1)) aNil))))
  (sRet (dVar 2))))))
theorem tm_often_in {P : Program} {w : World} {K : PySem.W.Frag} {TB : List (Addr × Str)} {mg : Str → Option Value} {base : Heap} {cBadBase : Addr} {cBadDigits : Addr} {cBadNumber : Addr} {cBadSteps : Addr} {cBadWay : Addr} {cOtherBase : Addr} {cBadReader : Addr} {cTooMany : Addr} (T : Txt K mg cBadBase cBadDigits cBadNumber cBadSteps cBadWay cOtherBase cBadReader cTooMany) (D_check_prime : Dfn P w K mg base "check_prime" 3 (spA K TB 1 (S_check_prime cBadBase))) (D_is_integer : Dfn P w K mg base "is_integer" 1 (spA K TB 1 S_is_integer)) (cdv : Value) (A : Around) (outer : List Env) (s : Shared) (H : Hp) (E : XK) {f : Addr} (hr : Room 3 (A.deeper (envOfC "often_in" (defScope s_often_in) s.heap.objs.size f cdv))) :
    PSs (cxOf (L2.CX P w) P w K mg base ["number", "prime", "found"] "often_in" (defScope s_often_in) f cdv A outer s H E) (defBody s_often_in) (upS K TB (fun cls d _ H => E cls d H) (rd_often_in cBadBase cBadNumber)) := by
  have nd := sc_often_in.nd
  have tk : Takes (cxOf (L2.CX P w) P w K mg base ["number", "prime", "found"] "often_in" (defScope s_often_in) f cdv A outer s H E) (fun cls d _ H => E cls d H) := takes_of rfl rfl rfl rfl
  have hp : PassesOwn (model P w) (A.deeper (envOfC "often_in" (defScope s_often_in) s.heap.objs.size f cdv)) (envOfC "often_in" (defScope s_often_in) s.heap.objs.size f cdv) (cxOf (L2.CX P w) P w K mg base ["number", "prime", "found"] "often_in" (defScope s_often_in) f cdv A outer s H E).xe := passes_of rfl
  exact (ds_cons (ds_if (L2.PW.pt (dw_or (dt_not (dt_val (dx_def D_is_integer tk hr (by decide) l_is_integer (da_cons (dx_var 0) da_nil)))) (dw_or1 (dt_not (dt_le_le dx_int (dx_var 0) (dx_globI T.k_MOST_NUMBER)))))) (ds_one (ds_raiseC T.e_BadNumber tk)) ds_nil)
  (ds_cons (ds_drop (dx_def D_check_prime tk hr (by decide) l_check_prime (da_cons (dx_var 1) da_nil)))
  (ds_cons (ds_set (i := 2) nd rfl (.inl rfl) dx_int)
  (ds_cons (ds_while hp (dt_eq hr.units (dx_mod (dx_var 0) (dx_var 1)) dx_int) (ds_one (ds_par (i := 2) (j := 0) rfl nd rfl rfl (by decide) rfl rfl (da_cons (dx_add (dx_var 2) dx_int) (da_cons (dx_div (dx_var 0) (dx_var 1)) da_nil)))))
  (ds_one (ds_ret (dx_var 2)))))))
/-! ### figures_of -/
abbrev s_figures_of : Stmt := topS 17
theorem sc_figures_of : FnScope ["number", "base", "found"] ["number", "base"] (defScope s_figures_of) := ⟨rfl, rfl, rfl, by decide +kernel, rfl, by decide +kernel, by decide +kernel⟩
def rd_figures_of : DS := (sSeq (sSetF 2 (fLst aNil))
  (sSeq (sWhile (dB (dBin fGt (dVar 0) (dC (.int 0)))) (sSeq (sApp 2 (dBin fMod (dVar 0) (dVar 1)))
  (sSet 0 (dBin fDiv (dVar 0) (dVar 1)))))
  (sFz 2 (sRetF (fRevL (dVar 2))))))
theorem tm_figures_of {P : Program} {w : World} {K : PySem.W.Frag} {TB : List (Addr × Str)} {mg : Str → Option Value} {base : Heap} {cBadBase : Addr} {cBadDigits : Addr} {cBadNumber : Addr} {cBadSteps : Addr} {cBadWay : Addr} {cOtherBase : Addr} {cBadReader : Addr} {cTooMany : Addr} (T : Txt K mg cBadBase cBadDigits cBadNumber cBadSteps cBadWay cOtherBase cBadReader cTooMany)  (cdv : Value) (A : Around) (outer : List Env) (s : Shared) (H : Hp) (E : XK) {f : Addr} (hr : Room 0 (A.deeper (envOfC "figures_of" (defScope s_figures_of) s.heap.objs.size f cdv))) :
    PSs (cxOf (L2.CX P w) P w K mg base ["number", "base", "found"] "figures_of" (defScope s_figures_of) f cdv A outer s H E) (defBody s_figures_of) (upS K TB (fun cls d _ H => E cls d H) rd_figures_of) := by
  have nd := sc_figures_of.nd
  have hp : PassesOwn (model P w) (A.deeper (envOfC "figures_of" (defScope s_figures_of) s.heap.objs.size f cdv)) (envOfC "figures_of" (defScope s_figures_of) s.heap.objs.size f cdv) (cxOf (L2.CX P w) P w K mg base ["number", "base", "found"] "figures_of" (defScope s_figures_of) f cdv A outer s H E).xe := passes_of rfl
  exact (ds_cons (ds_setF (i := 2) nd rfl (.inl rfl) (df_lst da_nil))
  (ds_cons (ds_while hp (dt_gt (dx_var 0) dx_int) (ds_cons (ds_app 2 (dx_mod (dx_var 0) (dx_var 1)))
  (ds_one (ds_set (i := 0) nd rfl (.inl rfl) (dx_div (dx_var 0) (dx_var 1))))))
  (ds_fz 2 (ds_one (ds_retF (df_revL rfl T.z_list T.z_reversed (dx_var 2)))))))
/-! ### often_by_figures -/
abbrev s_often_by_figures : Stmt := topS 27
theorem sc_often_by_figures : FnScope ["number", "prime"] ["number", "prime"] (defScope s_often_by_figures) := ⟨rfl, rfl, rfl, by decide +kernel, rfl, by decide +kernel, by decide +kernel⟩
def rd_often_by_figures (cBadBase : Addr) (cBadNumber : Addr) : DS := (sSeq (sDrop (dCall (S_check_numbers cBadNumber) (aCons (dTup (aCons (dVar 0) aNil)) aNil)))
  (sSeq (sDrop (dCall (S_check_prime cBadBase) (aCons (dVar 1) aNil)))
  (sRet (dBin fDiv (dBin fSub (dVar 0) (dCB gSum (aCons (dCall S_figures_of (aCons (dVar 0) (aCons (dVar 1) aNil))) aNil))) (dBin fSub (dVar 1) (dC (.int 1)))))))
theorem tm_often_by_figures {P : Program} {w : World} {K : PySem.W.Frag} {TB : List (Addr × Str)} {mg : Str → Option Value} {base : Heap} {cBadBase : Addr} {cBadDigits : Addr} {cBadNumber : Addr} {cBadSteps : Addr} {cBadWay : Addr} {cOtherBase : Addr} {cBadReader : Addr} {cTooMany : Addr} (T : Txt K mg cBadBase cBadDigits cBadNumber cBadSteps cBadWay cOtherBase cBadReader cTooMany) (D_check_numbers : Dfn P w K mg base "check_numbers" 2 (spA K TB 1 (S_check_numbers cBadNumber))) (D_check_prime : Dfn P w K mg base "check_prime" 3 (spA K TB 1 (S_check_prime cBadBase))) (D_figures_of : Dfn P w K mg base "figures_of" 1 (spA K TB 2 S_figures_of)) (cdv : Value) (A : Around) (outer : List Env) (s : Shared) (H : Hp) (E : XK) {f : Addr} (hr : Room 3 (A.deeper (envOfC "often_by_figures" (defScope s_often_by_figures) s.heap.objs.size f cdv))) :
    PSs (cxOf (L2.CX P w) P w K mg base ["number", "prime"] "often_by_figures" (defScope s_often_by_figures) f cdv A outer s H E) (defBody s_often_by_figures) (upS K TB (fun cls d _ H => E cls d H) (rd_often_by_figures cBadBase cBadNumber)) := by
  have nd := sc_often_by_figures.nd
  have tk : Takes (cxOf (L2.CX P w) P w K mg base ["number", "prime"] "often_by_figures" (defScope s_often_by_figures) f cdv A outer s H E) (fun cls d _ H => E cls d H) := takes_of rfl rfl rfl rfl
  exact (ds_cons (ds_drop (dx_def D_check_numbers tk hr (by decide) l_check_numbers (da_cons (dx_tup (da_cons (dx_var 0) da_nil)) da_nil)))
  (ds_cons (ds_drop (dx_def D_check_prime tk hr (by decide) l_check_prime (da_cons (dx_var 1) da_nil)))
  (ds_one (ds_ret (dx_div (dx_sub (dx_var 0) (dx_callB (cr_sum rfl) lc_sum T.z_sum b_sum (da_cons (dx_def D_figures_of tk hr (by decide) l_figures_of (da_cons (dx_var 0) (da_cons (dx_var 1) da_nil))) da_nil))) (dx_sub (dx_var 1) dx_int))))))
/-! ### _law_draw -/
abbrev s__law_draw : Stmt := topS 34
theorem sc__law_draw : FnScope ["hand", "many", "cell", "digit", "number"] ["hand", "many"] (defScope s__law_draw) := ⟨rfl, rfl, rfl, by decide +kernel, rfl, by decide +kernel, by decide +kernel⟩
def rd__law_draw : DS := (sCut (sIf (dAndT (dB (dBin fEq (dIxO 0 (dC (.int 2))) (dC (.int 0)))) (dB (dBin fLt (dIxO 0 (dC (.int 1))) (dCB gLen (aCons (dIxO 0 (dC (.int 0))) aNil))))) (sSeq (sSet 2 (dBin fIx (dIxO 0 (dC (.int 0))) (dIxO 0 (dC (.int 1)))))
  (sSeq (sSetIx 0 (dC (.int 1)) (dBin fAdd (dIxO 0 (dC (.int 1))) (dC (.int 1))))
  (sSeq (sSetIx 0 (dC (.int 3)) (dBin fMod (dCB gInt (aCons (dBin fAdd (dBin fAdd (dBin fMul (dIxO 0 (dC (.int 3))) (dC (.int 69621))) (dBin fMul (dVar 2) (dC (.int 40692)))) (dC (.int 23))) aNil)) (dC (.int 2147483629))))
  (sIf (dB (dBin fGe (dVar 2) (dBin fPow (dC (.int 10)) (dC (.int 18))))) (sSetIx 0 (dC (.int 2)) (dVar 2)) sSkip)))) sSkip)
  (sSeq (sIf (dB (dBin fGt (dIxO 0 (dC (.int 2))) (dC (.int 0)))) (sSeq (sSet 3 (dBin fMod (dCB gInt (aCons (dIxO 0 (dC (.int 2))) aNil)) (dVar 1)))
  (sSeq (sSetIx 0 (dC (.int 2)) (dBin fDiv (dIxO 0 (dC (.int 2))) (dVar 1)))
  (sRet (dVar 3)))) sSkip)
  (sSeq (sSetIx 0 (dC (.int 4)) (dBin fAdd (dIxO 0 (dC (.int 4))) (dC (.int 1))))
  (sSeq (sSet 4 (dBin fMod (dCB gInt (aCons (dBin fMul (dCB gInt (aCons (dBin fAdd (dIxO 0 (dC (.int 3))) (dBin fMul (dC (.int 7919)) (dIxO 0 (dC (.int 4))))) aNil)) (dC (.int 48271))) aNil)) (dC (.int 2147483647))))
  (sSeq (sSet 4 (dBin fMod (dCB gInt (aCons (dBin fMul (dVar 4) (dBin fAdd (dBin fDiv (dVar 4) (dC (.int 1009))) (dC (.int 69621)))) aNil)) (dC (.int 2147483647))))
  (sSeq (sSet 4 (dBin fMod (dCB gInt (aCons (dBin fMul (dVar 4) (dBin fAdd (dBin fDiv (dVar 4) (dC (.int 2003))) (dC (.int 40014)))) aNil)) (dC (.int 2147483563))))
  (sRet (dBin fMod (dCB gInt (aCons (dBin fDiv (dVar 4) (dC (.int 16))) aNil)) (dVar 1)))))))))
theorem tm__law_draw {P : Program} {w : World} {K : PySem.W.Frag} {TB : List (Addr × Str)} {mg : Str → Option Value} {base : Heap} {cBadBase : Addr} {cBadDigits : Addr} {cBadNumber : Addr} {cBadSteps : Addr} {cBadWay : Addr} {cOtherBase : Addr} {cBadReader : Addr} {cTooMany : Addr} (T : Txt K mg cBadBase cBadDigits cBadNumber cBadSteps cBadWay cOtherBase cBadReader cTooMany)  (cdv : Value) (A : Around) (outer : List Env) (s : Shared) (H : Hp) (E : XK) {f : Addr} (hr : Room 0 (A.deeper (envOfC "_law_draw" (defScope s__law_draw) s.heap.objs.size f cdv))) :
    PSs (cxOf (L2.CX P w) P w K mg base ["hand", "many", "cell", "digit", "number"] "_law_draw" (defScope s__law_draw) f cdv A outer s H E) (defBody s__law_draw) (upS K TB (fun cls d _ H => E cls d H) rd__law_draw) := by
  have nd := sc__law_draw.nd
  exact (ds_cut (ds_if (L2.PW.pt (dw_and (dt_eq hr.units (dx_ixO 0 dx_int) dx_int) (dw_and1 (dt_lt (dx_ixO 0 dx_int) (dx_callB (CallR.or call_len_seq call_len_str) lc_len T.z_len b_len (da_cons (dx_ixO 0 dx_int) da_nil)))))) (ds_cons (ds_set (i := 2) nd rfl (.inl rfl) (dx_ix (dx_ixO 0 dx_int) (dx_ixO 0 dx_int)))
  (ds_cons (ds_setIx 0 dx_int (dx_add (dx_ixO 0 dx_int) dx_int))
  (ds_cons (ds_setIx 0 dx_int (dx_mod (dx_callTy call_int1 lc_int T.z_int b_int (da_cons (dx_add (dx_add (dx_mul (dx_ixO 0 dx_int) dx_int) (dx_mul (dx_var 2) dx_int)) dx_int) da_nil)) dx_int))
  (ds_one (ds_if (dt_ge (dx_var 2) (dx_pow dx_int dx_int)) (ds_one (ds_setIx 0 dx_int (dx_var 2))) ds_nil))))) ds_nil)
  (ds_cons (ds_if (dt_gt (dx_ixO 0 dx_int) dx_int) (ds_cons (ds_set (i := 3) nd rfl (.inl rfl) (dx_mod (dx_callTy call_int1 lc_int T.z_int b_int (da_cons (dx_ixO 0 dx_int) da_nil)) (dx_var 1)))
  (ds_cons (ds_setIx 0 dx_int (dx_div (dx_ixO 0 dx_int) (dx_var 1)))
  (ds_one (ds_ret (dx_var 3))))) ds_nil)
  (ds_cons (ds_setIx 0 dx_int (dx_add (dx_ixO 0 dx_int) dx_int))
  (ds_cons (ds_set (i := 4) nd rfl (.inl rfl) (dx_mod (dx_callTy call_int1 lc_int T.z_int b_int (da_cons (dx_mul (dx_callTy call_int1 lc_int T.z_int b_int (da_cons (dx_add (dx_ixO 0 dx_int) (dx_mul dx_int (dx_ixO 0 dx_int))) da_nil)) dx_int) da_nil)) dx_int))
  (ds_cons (ds_set (i := 4) nd rfl (.inl rfl) (dx_mod (dx_callTy call_int1 lc_int T.z_int b_int (da_cons (dx_mul (dx_var 4) (dx_add (dx_div (dx_var 4) dx_int) dx_int)) da_nil)) dx_int))
  (ds_cons (ds_set (i := 4) nd rfl (.inl rfl) (dx_mod (dx_callTy call_int1 lc_int T.z_int b_int (da_cons (dx_mul (dx_var 4) (dx_add (dx_div (dx_var 4) dx_int) dx_int)) da_nil)) dx_int))
  (ds_one (ds_ret (dx_mod (dx_callTy call_int1 lc_int T.z_int b_int (da_cons (dx_div (dx_var 4) dx_int) da_nil)) (dx_var 1))))))))))
/-! ### _law_any -/
abbrev s__law_any : Stmt := topS 35
theorem sc__law_any : FnScope ["hand", "some"] ["hand", "some"] (defScope s__law_any) := ⟨rfl, rfl, rfl, by decide +kernel, rfl, by decide +kernel, by decide +kernel⟩
def rd__law_any : DS := sRet (dBin fIx (dVar 1) (dCallO 0 S__law_draw (aCons (dCB gLen (aCons (dVar 1) aNil)) aNil)))
theorem tm__law_any {P : Program} {w : World} {K : PySem.W.Frag} {TB : List (Addr × Str)} {mg : Str → Option Value} {base : Heap} {cBadBase : Addr} {cBadDigits : Addr} {cBadNumber : Addr} {cBadSteps : Addr} {cBadWay : Addr} {cOtherBase : Addr} {cBadReader : Addr} {cTooMany : Addr} (T : Txt K mg cBadBase cBadDigits cBadNumber cBadSteps cBadWay cOtherBase cBadReader cTooMany) (D__law_draw : Dfn P w K mg base "_law_draw" 1 (spB K TB 2 S__law_draw)) (cdv : Value) (A : Around) (outer : List Env) (s : Shared) (H : Hp) (E : XK) {f : Addr} (hr : Room 1 (A.deeper (envOfC "_law_any" (defScope s__law_any) s.heap.objs.size f cdv))) :
    PSs (cxOf (L2.CX P w) P w K mg base ["hand", "some"] "_law_any" (defScope s__law_any) f cdv A outer s H E) (defBody s__law_any) (upS K TB (fun cls d _ H => E cls d H) rd__law_any) := by
  have nd := sc__law_any.nd
  have tk : Takes (cxOf (L2.CX P w) P w K mg base ["hand", "some"] "_law_any" (defScope s__law_any) f cdv A outer s H E) (fun cls d _ H => E cls d H) := takes_of rfl rfl rfl rfl
  exact (ds_one (ds_ret (dx_ix (dx_var 1) (dx_defO 0 D__law_draw tk hr (by decide) l__law_draw (da_cons (dx_callB (CallR.or call_len_seq call_len_str) lc_len T.z_len b_len (da_cons (dx_var 1) da_nil)) da_nil)))))
/-! ### _law_prime -/
abbrev s__law_prime : Stmt := topS 39
theorem sc__law_prime : FnScope ["hand", "great", "some"] ["hand", "great"] (defScope s__law_prime) := ⟨rfl, rfl, rfl, by decide +kernel, rfl, by decide +kernel, by decide +kernel⟩
def rd__law_prime : DS := (sSeq (sSet 2 (dF (fLst (aCons (dC (.int 2)) (aCons (dC (.int 3)) (aCons (dC (.int 5)) (aCons (dC (.int 7)) (aCons (dC (.int 11)) (aCons (dC (.int 13)) (aCons (dC (.int 101)) (aCons (dC (.int 997)) (aCons (dC (.int 1999)) aNil))))))))))))
  (sRet (dCallO 0 S__law_any (aCons (dF (fCatL (dVar 2) (dIfE (dB (dVar 1)) (dF (fLst (aCons (dC (.int 7919)) (aCons (dC (.int 65537)) (aCons (dC (.int 104729)) (aCons (dC (.int 999983)) aNil)))))) (dF (fLst aNil))))) aNil))))
theorem tm__law_prime {P : Program} {w : World} {K : PySem.W.Frag} {TB : List (Addr × Str)} {mg : Str → Option Value} {base : Heap} {cBadBase : Addr} {cBadDigits : Addr} {cBadNumber : Addr} {cBadSteps : Addr} {cBadWay : Addr} {cOtherBase : Addr} {cBadReader : Addr} {cTooMany : Addr} (T : Txt K mg cBadBase cBadDigits cBadNumber cBadSteps cBadWay cOtherBase cBadReader cTooMany) (D__law_any : Dfn P w K mg base "_law_any" 2 (spB K TB 2 S__law_any)) (cdv : Value) (A : Around) (outer : List Env) (s : Shared) (H : Hp) (E : XK) {f : Addr} (hr : Room 2 (A.deeper (envOfC "_law_prime" (defScope s__law_prime) s.heap.objs.size f cdv))) :
    PSs (cxOf (L2.CX P w) P w K mg base ["hand", "great", "some"] "_law_prime" (defScope s__law_prime) f cdv A outer s H E) (defBody s__law_prime) (upS K TB (fun cls d _ H => E cls d H) rd__law_prime) := by
  have nd := sc__law_prime.nd
  have tk : Takes (cxOf (L2.CX P w) P w K mg base ["hand", "great", "some"] "_law_prime" (defScope s__law_prime) f cdv A outer s H E) (fun cls d _ H => E cls d H) := takes_of rfl rfl rfl rfl
  exact (ds_cons (ds_set (i := 2) nd rfl (.inl rfl) (dx_f (df_lst (da_cons dx_int (da_cons dx_int (da_cons dx_int (da_cons dx_int (da_cons dx_int (da_cons dx_int (da_cons dx_int (da_cons dx_int (da_cons dx_int da_nil))))))))))))
  (ds_one (ds_ret (dx_defO 0 D__law_any tk hr (by decide) l__law_any (da_cons (dx_f (df_cat (dx_var 2) (dx_ifExp (dt_val (dx_var 1)) (dx_f (df_lst (da_cons dx_int (da_cons dx_int (da_cons dx_int (da_cons dx_int da_nil)))))) (dx_f (df_lst da_nil))))) da_nil)))))
/-! ### _law_great -/
abbrev s__law_great : Stmt := topS 40
theorem sc__law_great : FnScope ["hand", "kind", "power", "turn"] ["hand"] (defScope s__law_great) := ⟨rfl, rfl, rfl, by decide +kernel, rfl, by decide +kernel, by decide +kernel⟩
def rd__law_great : DS := (sSeq (sSet 1 (dCallO 0 S__law_draw (aCons (dC (.int 5)) aNil)))
  (sSeq (sIf (dB (dBin fEq (dVar 1) (dC (.int 0)))) (sRet (dCallO 0 S__law_draw (aCons (dC (.int 30)) aNil))) sSkip)
  (sSeq (sIf (dB (dBin fEq (dVar 1) (dC (.int 1)))) (sRet (dCallO 0 S__law_draw (aCons (dBin fAdd (dBin fPow (dC (.int 10)) (dC (.int 60))) (dC (.int 1))) aNil))) sSkip)
  (sSeq (sSet 2 (dC (.int 1)))
  (sSeq (sFor (iR1 (aCons (dCallO 0 S__law_draw (aCons (dC (.int 40)) aNil)) aNil)) (gN 3) (sSet 2 (dIfE (dB (dBin fLt (dVar 2) (dBin fPow (dC (.int 10)) (dC (.int 55))))) (dBin fMul (dVar 2) (dCallO 0 S__law_any (aCons (dF (fLst (aCons (dC (.int 2)) (aCons (dC (.int 3)) (aCons (dC (.int 5)) aNil))))) aNil))) (dVar 2))))
  (sSeq (sIf (dB (dBin fEq (dVar 1) (dC (.int 2)))) (sRet (dCB gMax2 (aCons (dC (.int 0)) (aCons (dBin fSub (dVar 2) (dCallO 0 S__law_draw (aCons (dC (.int 3)) aNil))) aNil)))) sSkip)
  (sRet (dCallO 0 S__law_draw (aCons (dCallO 0 S__law_any (aCons (dF (fLst (aCons (dC (.int 1000)) (aCons (dBin fPow (dC (.int 10)) (dC (.int 9))) (aCons (dBin fPow (dC (.int 10)) (dC (.int 20))) aNil))))) aNil)) aNil)))))))))
theorem tm__law_great {P : Program} {w : World} {K : PySem.W.Frag} {TB : List (Addr × Str)} {mg : Str → Option Value} {base : Heap} {cBadBase : Addr} {cBadDigits : Addr} {cBadNumber : Addr} {cBadSteps : Addr} {cBadWay : Addr} {cOtherBase : Addr} {cBadReader : Addr} {cTooMany : Addr} (T : Txt K mg cBadBase cBadDigits cBadNumber cBadSteps cBadWay cOtherBase cBadReader cTooMany) (D__law_any : Dfn P w K mg base "_law_any" 2 (spB K TB 2 S__law_any)) (D__law_draw : Dfn P w K mg base "_law_draw" 1 (spB K TB 2 S__law_draw)) (cdv : Value) (A : Around) (outer : List Env) (s : Shared) (H : Hp) (E : XK) {f : Addr} (hr : Room 2 (A.deeper (envOfC "_law_great" (defScope s__law_great) s.heap.objs.size f cdv))) :
    PSs (cxOf (L2.CX P w) P w K mg base ["hand", "kind", "power", "turn"] "_law_great" (defScope s__law_great) f cdv A outer s H E) (defBody s__law_great) (upS K TB (fun cls d _ H => E cls d H) rd__law_great) := by
  have nd := sc__law_great.nd
  have tk : Takes (cxOf (L2.CX P w) P w K mg base ["hand", "kind", "power", "turn"] "_law_great" (defScope s__law_great) f cdv A outer s H E) (fun cls d _ H => E cls d H) := takes_of rfl rfl rfl rfl
  have hp : PassesOwn (model P w) (A.deeper (envOfC "_law_great" (defScope s__law_great) s.heap.objs.size f cdv)) (envOfC "_law_great" (defScope s__law_great) s.heap.objs.size f cdv) (cxOf (L2.CX P w) P w K mg base ["hand", "kind", "power", "turn"] "_law_great" (defScope s__law_great) f cdv A outer s H E).xe := passes_of rfl
  exact (ds_cons (ds_set (i := 1) nd rfl (.inl rfl) (dx_defO 0 D__law_draw tk hr (by decide) l__law_draw (da_cons dx_int da_nil)))
  (ds_cons (ds_if (dt_eq hr.units (dx_var 1) dx_int) (ds_one (ds_ret (dx_defO 0 D__law_draw tk hr (by decide) l__law_draw (da_cons dx_int da_nil)))) ds_nil)
  (ds_cons (ds_if (dt_eq hr.units (dx_var 1) dx_int) (ds_one (ds_ret (dx_defO 0 D__law_draw tk hr (by decide) l__law_draw (da_cons (dx_add (dx_pow dx_int dx_int) dx_int) da_nil)))) ds_nil)
  (ds_cons (ds_set (i := 2) nd rfl (.inl rfl) dx_int)
  (ds_cons (ds_for hp rfl (di_r1 T.z_range (da_cons (dx_defO 0 D__law_draw tk hr (by decide) l__law_draw (da_cons dx_int da_nil)) da_nil)) (dg_n (i := 3) (vs := [3]) (by decide) nd rfl (.inl rfl)) (ds_one (ds_set (i := 2) nd rfl (.inl rfl) (dx_ifExp (dt_lt (dx_var 2) (dx_pow dx_int dx_int)) (dx_mul (dx_var 2) (dx_defO 0 D__law_any tk hr (by decide) l__law_any (da_cons (dx_f (df_lst (da_cons dx_int (da_cons dx_int (da_cons dx_int da_nil))))) da_nil))) (dx_var 2)))))
  (ds_cons (ds_if (dt_eq hr.units (dx_var 1) dx_int) (ds_one (ds_ret (dx_callB (call_max2 rfl) lc_max2 T.z_max b_max (da_cons dx_int (da_cons (dx_sub (dx_var 2) (dx_defO 0 D__law_draw tk hr (by decide) l__law_draw (da_cons dx_int da_nil))) da_nil))))) ds_nil)
  (ds_one (ds_ret (dx_defO 0 D__law_draw tk hr (by decide) l__law_draw (da_cons (dx_defO 0 D__law_any tk hr (by decide) l__law_any (da_cons (dx_f (df_lst (da_cons dx_int (da_cons (dx_pow dx_int dx_int) (da_cons (dx_pow dx_int dx_int) da_nil))))) da_nil)) da_nil))))))))))
/-! ### _law_often -/
abbrev s__law_often : Stmt := topS 41
theorem sc__law_often : FnScope ["number", "prime", "found"] ["number", "prime"] (defScope s__law_often) := ⟨rfl, rfl, rfl, by decide +kernel, rfl, by decide +kernel, by decide +kernel⟩
def rd__law_often : DS := (sSeq (sSet 2 (dC (.int 0)))
  (sSeq (sWhile (dB (dBin fEq (dBin fMod (dCB gInt (aCons (dVar 0) aNil)) (dVar 1)) (dC (.int 0)))) (sPar 0 2 (aCons (dBin fDiv (dVar 0) (dVar 1)) (aCons (dBin fAdd (dVar 2) (dC (.int 1))) aNil))))
  (sRet (dVar 2))))
theorem tm__law_often {P : Program} {w : World} {K : PySem.W.Frag} {TB : List (Addr × Str)} {mg : Str → Option Value} {base : Heap} {cBadBase : Addr} {cBadDigits : Addr} {cBadNumber : Addr} {cBadSteps : Addr} {cBadWay : Addr} {cOtherBase : Addr} {cBadReader : Addr} {cTooMany : Addr} (T : Txt K mg cBadBase cBadDigits cBadNumber cBadSteps cBadWay cOtherBase cBadReader cTooMany)  (cdv : Value) (A : Around) (outer : List Env) (s : Shared) (H : Hp) (E : XK) {f : Addr} (hr : Room 0 (A.deeper (envOfC "_law_often" (defScope s__law_often) s.heap.objs.size f cdv))) :
    PSs (cxOf (L2.CX P w) P w K mg base ["number", "prime", "found"] "_law_often" (defScope s__law_often) f cdv A outer s H E) (defBody s__law_often) (upS K TB (fun cls d _ H => E cls d H) rd__law_often) := by
  have nd := sc__law_often.nd
  have hp : PassesOwn (model P w) (A.deeper (envOfC "_law_often" (defScope s__law_often) s.heap.objs.size f cdv)) (envOfC "_law_often" (defScope s__law_often) s.heap.objs.size f cdv) (cxOf (L2.CX P w) P w K mg base ["number", "prime", "found"] "_law_often" (defScope s__law_often) f cdv A outer s H E).xe := passes_of rfl
  exact (ds_cons (ds_set (i := 2) nd rfl (.inl rfl) dx_int)
  (ds_cons (ds_while hp (dt_eq hr.units (dx_mod (dx_callTy call_int1 lc_int T.z_int b_int (da_cons (dx_var 0) da_nil)) (dx_var 1)) dx_int) (ds_one (ds_par (i := 0) (j := 2) rfl nd rfl rfl (by decide) rfl rfl (da_cons (dx_div (dx_var 0) (dx_var 1)) (da_cons (dx_add (dx_var 2) dx_int) da_nil)))))
  (ds_one (ds_ret (dx_var 2)))))
/-! ### _law_in_product -/
abbrev s__law_in_product : Stmt := topS 42
theorem sc__law_in_product : FnScope ["number", "prime", "found"] ["number", "prime"] (defScope s__law_in_product) := ⟨rfl, rfl, rfl, by decide +kernel, rfl, by decide +kernel, by decide +kernel⟩
def rd__law_in_product : DS := (sSeq (sSet 2 (dC (.int 0)))
  (sSeq (sWhile (dB (dBin fGt (dVar 0) (dC (.int 0)))) (sSeq (sSet 0 (dBin fDiv (dVar 0) (dVar 1)))
  (sSet 2 (dBin fAdd (dVar 2) (dVar 0)))))
  (sRet (dVar 2))))
theorem tm__law_in_product {P : Program} {w : World} {K : PySem.W.Frag} {TB : List (Addr × Str)} {mg : Str → Option Value} {base : Heap} {cBadBase : Addr} {cBadDigits : Addr} {cBadNumber : Addr} {cBadSteps : Addr} {cBadWay : Addr} {cOtherBase : Addr} {cBadReader : Addr} {cTooMany : Addr} (T : Txt K mg cBadBase cBadDigits cBadNumber cBadSteps cBadWay cOtherBase cBadReader cTooMany)  (cdv : Value) (A : Around) (outer : List Env) (s : Shared) (H : Hp) (E : XK) {f : Addr} (hr : Room 0 (A.deeper (envOfC "_law_in_product" (defScope s__law_in_product) s.heap.objs.size f cdv))) :
    PSs (cxOf (L2.CX P w) P w K mg base ["number", "prime", "found"] "_law_in_product" (defScope s__law_in_product) f cdv A outer s H E) (defBody s__law_in_product) (upS K TB (fun cls d _ H => E cls d H) rd__law_in_product) := by
  have nd := sc__law_in_product.nd
  have hp : PassesOwn (model P w) (A.deeper (envOfC "_law_in_product" (defScope s__law_in_product) s.heap.objs.size f cdv)) (envOfC "_law_in_product" (defScope s__law_in_product) s.heap.objs.size f cdv) (cxOf (L2.CX P w) P w K mg base ["number", "prime", "found"] "_law_in_product" (defScope s__law_in_product) f cdv A outer s H E).xe := passes_of rfl
  exact (ds_cons (ds_set (i := 2) nd rfl (.inl rfl) dx_int)
  (ds_cons (ds_while hp (dt_gt (dx_var 0) dx_int) (ds_cons (ds_set (i := 0) nd rfl (.inl rfl) (dx_div (dx_var 0) (dx_var 1)))
  (ds_one (ds_set (i := 2) nd rfl (.inl rfl) (dx_add (dx_var 2) (dx_var 0))))))
  (ds_one (ds_ret (dx_var 2)))))
/-! ### _law_zeros -/
abbrev s__law_zeros : Stmt := topS 46
theorem sc__law_zeros : FnScope ["number", "base", "some", "here", "left", "often", "turn"] ["number", "base"] (defScope s__law_zeros) := ⟨rfl, rfl, rfl, by decide +kernel, rfl, by decide +kernel, by decide +kernel⟩
def rd__law_zeros : DS := (sSeq (sMPar [2, 3, 4] (mN (nF (fLst aNil)) (mD (dC (.int 2)) (mD (dVar 1) mNil))))
  (sSeq (sWhile (dB (dBin fGt (dVar 4) (dC (.int 1)))) (sSeq (sSet 5 (dCall S__law_often (aCons (dVar 4) (aCons (dVar 3) aNil))))
  (sCut (sIf (dB (dBin fGt (dVar 5) (dC (.int 0)))) (sSeq (sApp 2 (dBin fDiv (dCall S__law_in_product (aCons (dVar 0) (aCons (dVar 3) aNil))) (dVar 5)))
  (sFor (iR1 (aCons (dVar 5) aNil)) (gN 6) (sSet 4 (dBin fDiv (dVar 4) (dVar 3))))) sSkip)
  (sSet 3 (dIfE (dOrT (dB (dBin fLe (dBin fMul (dVar 3) (dVar 3)) (dVar 4))) (dB (dBin fEq (dBin fAdd (dVar 3) (dC (.int 1))) (dVar 4)))) (dBin fAdd (dVar 3) (dC (.int 1))) (dCB gMax2 (aCons (dBin fAdd (dVar 3) (dC (.int 1))) (aCons (dVar 4) aNil))))))))
  (sRet (dPeek (dCB gMin (aCons (dVar 2) aNil))))))
theorem tm__law_zeros {P : Program} {w : World} {K : PySem.W.Frag} {TB : List (Addr × Str)} {mg : Str → Option Value} {base : Heap} {cBadBase : Addr} {cBadDigits : Addr} {cBadNumber : Addr} {cBadSteps : Addr} {cBadWay : Addr} {cOtherBase : Addr} {cBadReader : Addr} {cTooMany : Addr} (T : Txt K mg cBadBase cBadDigits cBadNumber cBadSteps cBadWay cOtherBase cBadReader cTooMany) (D__law_in_product : Dfn P w K mg base "_law_in_product" 1 (spA K TB 2 S__law_in_product)) (D__law_often : Dfn P w K mg base "_law_often" 1 (spA K TB 2 S__law_often)) (cdv : Value) (A : Around) (outer : List Env) (s : Shared) (H : Hp) (E : XK) {f : Addr} (hr : Room 1 (A.deeper (envOfC "_law_zeros" (defScope s__law_zeros) s.heap.objs.size f cdv))) :
    PSs (cxOf (L2.CX P w) P w K mg base ["number", "base", "some", "here", "left", "often", "turn"] "_law_zeros" (defScope s__law_zeros) f cdv A outer s H E) (defBody s__law_zeros) (upS K TB (fun cls d _ H => E cls d H) rd__law_zeros) := by
  have nd := sc__law_zeros.nd
  have tk : Takes (cxOf (L2.CX P w) P w K mg base ["number", "base", "some", "here", "left", "often", "turn"] "_law_zeros" (defScope s__law_zeros) f cdv A outer s H E) (fun cls d _ H => E cls d H) := takes_of rfl rfl rfl rfl
  have hp : PassesOwn (model P w) (A.deeper (envOfC "_law_zeros" (defScope s__law_zeros) s.heap.objs.size f cdv)) (envOfC "_law_zeros" (defScope s__law_zeros) s.heap.objs.size f cdv) (cxOf (L2.CX P w) P w K mg base ["number", "base", "some", "here", "left", "often", "turn"] "_law_zeros" (defScope s__law_zeros) f cdv A outer s H E).xe := passes_of rfl
  exact (ds_cons (ds_mpar3 (i0 := 2) (i1 := 3) (i2 := 4) rfl nd (dm_n (dn_f (df_lst da_nil)) (dm_d dx_int (dm_d (dx_var 1) dm_nil))))
  (ds_cons (ds_while hp (dt_gt (dx_var 4) dx_int) (ds_cons (ds_set (i := 5) nd rfl (.inl rfl) (dx_def D__law_often tk hr (by decide) l__law_often (da_cons (dx_var 4) (da_cons (dx_var 3) da_nil))))
  (ds_cut (ds_if (dt_gt (dx_var 5) dx_int) (ds_cons (ds_app 2 (dx_div (dx_def D__law_in_product tk hr (by decide) l__law_in_product (da_cons (dx_var 0) (da_cons (dx_var 3) da_nil))) (dx_var 5)))
  (ds_one (ds_for hp rfl (di_r1 T.z_range (da_cons (dx_var 5) da_nil)) (dg_n (i := 6) (vs := [6]) (by decide) nd rfl (.inl rfl)) (ds_one (ds_set (i := 4) nd rfl (.inl rfl) (dx_div (dx_var 4) (dx_var 3))))))) ds_nil)
  (ds_one (ds_set (i := 3) nd rfl (.inl rfl) (dx_ifExp (L2.PW.pt (dw_or (dt_le (dx_mul (dx_var 3) (dx_var 3)) (dx_var 4)) (dw_or1 (dt_eq hr.units (dx_add (dx_var 3) dx_int) (dx_var 4))))) (dx_add (dx_var 3) dx_int) (dx_callB (call_max2 rfl) lc_max2 T.z_max b_max (da_cons (dx_add (dx_var 3) dx_int) (da_cons (dx_var 4) da_nil)))))))))
  (ds_one (ds_ret (dx_peek (dx_callB (cr_min rfl) lc_min T.z_min b_min (da_cons (dx_var 2) da_nil)))))))
/-! ### _law_carry_number -/
abbrev s__law_carry_number : Stmt := topS 47
theorem sc__law_carry_number : FnScope ["one", "other", "base", "found", "carry"] ["one", "other", "base"] (defScope s__law_carry_number) := ⟨rfl, rfl, rfl, by decide +kernel, rfl, by decide +kernel, by decide +kernel⟩
def rd__law_carry_number : DS := (sSeq (sAsg (dTup (aCons (dC (.int 0)) (aCons (dC (.int 0)) aNil))) (gT [3, 4]))
  (sSeq (sWhile (dOrT (dB (dBin fGt (dVar 0) (dC (.int 0)))) (dB (dBin fGt (dVar 1) (dC (.int 0))))) (sSeq (sSet 4 (dCB gInt (aCons (dBin fGe (dBin fAdd (dBin fAdd (dBin fMod (dCB gInt (aCons (dVar 0) aNil)) (dVar 2)) (dBin fMod (dCB gInt (aCons (dVar 1) aNil)) (dVar 2))) (dVar 4)) (dVar 2)) aNil)))
  (sPar3 3 0 1 (aCons (dBin fAdd (dVar 3) (dVar 4)) (aCons (dBin fDiv (dVar 0) (dVar 2)) (aCons (dBin fDiv (dVar 1) (dVar 2)) aNil))))))
  (sRet (dVar 3))))
theorem tm__law_carry_number {P : Program} {w : World} {K : PySem.W.Frag} {TB : List (Addr × Str)} {mg : Str → Option Value} {base : Heap} {cBadBase : Addr} {cBadDigits : Addr} {cBadNumber : Addr} {cBadSteps : Addr} {cBadWay : Addr} {cOtherBase : Addr} {cBadReader : Addr} {cTooMany : Addr} (T : Txt K mg cBadBase cBadDigits cBadNumber cBadSteps cBadWay cOtherBase cBadReader cTooMany)  (cdv : Value) (A : Around) (outer : List Env) (s : Shared) (H : Hp) (E : XK) {f : Addr} (hr : Room 0 (A.deeper (envOfC "_law_carry_number" (defScope s__law_carry_number) s.heap.objs.size f cdv))) :
    PSs (cxOf (L2.CX P w) P w K mg base ["one", "other", "base", "found", "carry"] "_law_carry_number" (defScope s__law_carry_number) f cdv A outer s H E) (defBody s__law_carry_number) (upS K TB (fun cls d _ H => E cls d H) rd__law_carry_number) := by
  have nd := sc__law_carry_number.nd
  have hp : PassesOwn (model P w) (A.deeper (envOfC "_law_carry_number" (defScope s__law_carry_number) s.heap.objs.size f cdv)) (envOfC "_law_carry_number" (defScope s__law_carry_number) s.heap.objs.size f cdv) (cxOf (L2.CX P w) P w K mg base ["one", "other", "base", "found", "carry"] "_law_carry_number" (defScope s__law_carry_number) f cdv A outer s H E).xe := passes_of rfl
  exact (ds_cons (ds_asg (dx_tup (da_cons dx_int (da_cons dx_int da_nil))) (dg_t rfl (dgs_cons (i := 3) (vs := [3, 4]) (by decide) nd rfl (.inl rfl) (dgs_cons (i := 4) (vs := [3, 4]) (by decide) nd rfl (.inl rfl) dgs_nil))))
  (ds_cons (ds_while hp (L2.PW.pt (dw_or (dt_gt (dx_var 0) dx_int) (dw_or1 (dt_gt (dx_var 1) dx_int)))) (ds_cons (ds_set (i := 4) nd rfl (.inl rfl) (dx_callTy call_int1 lc_int T.z_int b_int (da_cons (dx_ge (dx_add (dx_add (dx_mod (dx_callTy call_int1 lc_int T.z_int b_int (da_cons (dx_var 0) da_nil)) (dx_var 2)) (dx_mod (dx_callTy call_int1 lc_int T.z_int b_int (da_cons (dx_var 1) da_nil)) (dx_var 2))) (dx_var 4)) (dx_var 2)) da_nil)))
  (ds_one (ds_par3 (i0 := 3) (i1 := 0) (i2 := 1) rfl nd (da_cons (dx_add (dx_var 3) (dx_var 4)) (da_cons (dx_div (dx_var 0) (dx_var 2)) (da_cons (dx_div (dx_var 1) (dx_var 2)) da_nil)))))))
  (ds_one (ds_ret (dx_var 3)))))
/-! ### _law_is_right -/
abbrev s__law_is_right : Stmt := topS 48
theorem sc__law_is_right : FnScope ["hand", "number", "some", "prime", "due", "told", "lots", "base"] ["hand"] (defScope s__law_is_right) := ⟨rfl, rfl, rfl, by decide +kernel, rfl, by decide +kernel, by decide +kernel⟩
def rd__law_is_right (cBadBase : Addr) (cBadNumber : Addr) : DS := (sSeq (sPar3 1 2 3 (aCons (dCallO 0 S__law_great aNil) (aCons (dCallO 0 S__law_great aNil) (aCons (dCallO 0 S__law_prime (aCons (dC (.bl true)) aNil)) aNil))))
  (sSeq (sSet 2 (dCallO 0 S__law_any (aCons (dF (fLst (aCons (dVar 2) (aCons (dCallO 0 S__law_draw (aCons (dBin fAdd (dVar 1) (dC (.int 1))) aNil)) (aCons (dVar 1) aNil))))) aNil)))
  (sSeq (sSet 4 (dCall S__law_in_product (aCons (dVar 1) (aCons (dVar 3) aNil))))
  (sSeq (sIf (dNotT (dB (dCall (S__law_is 4) (aCons (dF (fLst (aCons (dCall (S_often_in_product cBadBase cBadNumber) (aCons (dVar 1) (aCons (dVar 3) aNil))) (aCons (dCall (S_often_by_figures cBadBase cBadNumber) (aCons (dVar 1) (aCons (dVar 3) aNil))) aNil)))) (aCons (dF (fLst (aCons (dVar 4) (aCons (dVar 4) aNil)))) aNil))))) (sRet (dC (.bl false))) sSkip)
  (sSeq (sIf (dNotT (dB (dCall (S__law_is 4) (aCons (dCall (S_often_in cBadBase cBadNumber) (aCons (dCB gMax2 (aCons (dC (.int 1)) (aCons (dVar 1) aNil))) (aCons (dVar 3) aNil))) (aCons (dCall S__law_often (aCons (dCB gMax2 (aCons (dC (.int 1)) (aCons (dVar 1) aNil))) (aCons (dVar 3) aNil))) aNil))))) (sRet (dC (.bl false))) sSkip)
  (sSeq (sSet 5 (dCall (S_often_in_choices cBadBase cBadNumber) (aCons (dVar 1) (aCons (dVar 2) (aCons (dVar 3) aNil)))))
  (sSeq (sIf (dB (dBin fGt (dVar 2) (dVar 1))) (sRet (dBin fIs (dVar 5) (dC .non))) sSkip)
  (sSeq (sSet 6 (dBin fSub (dBin fSub (dVar 4) (dCall S__law_in_product (aCons (dVar 2) (aCons (dVar 3) aNil)))) (dCall S__law_in_product (aCons (dBin fSub (dVar 1) (dVar 2)) (aCons (dVar 3) aNil)))))
  (sSeq (sIf (dNotT (dB (dCall (S__law_is 4) (aCons (dF (fLst (aCons (dVar 5) (aCons (dCall (S_carry_number cBadBase cBadNumber) (aCons (dVar 2) (aCons (dBin fSub (dVar 1) (dVar 2)) (aCons (dVar 3) aNil)))) aNil)))) (aCons (dF (fLst (aCons (dVar 6) (aCons (dVar 6) aNil)))) aNil))))) (sRet (dC (.bl false))) sSkip)
  (sSeq (sIf (dB (dBin fNe (dVar 6) (dCall S__law_carry_number (aCons (dVar 2) (aCons (dBin fSub (dVar 1) (dVar 2)) (aCons (dVar 3) aNil)))))) (sRet (dC (.bl false))) sSkip)
  (sSeq (sSet 7 (dCallO 0 S__law_any (aCons (dF (fLst (aCons (dC (.int 2)) (aCons (dC (.int 3)) (aCons (dC (.int 4)) (aCons (dC (.int 6)) (aCons (dC (.int 10)) (aCons (dC (.int 12)) (aCons (dC (.int 36)) (aCons (dC (.int 1000)) (aCons (dBin fAdd (dC (.int 2)) (dCallO 0 S__law_draw (aCons (dC (.int 999)) aNil))) (aCons (dBin fPow (dC (.int 10)) (dC (.int 6))) (aCons (dC (.int 999983)) aNil))))))))))))) aNil)))
  (sRet (dCall (S__law_is 4) (aCons (dCall (S_zeros_of_product cBadBase cBadNumber) (aCons (dVar 1) (aCons (dVar 7) aNil))) (aCons (dCall S__law_zeros (aCons (dVar 1) (aCons (dVar 7) aNil))) aNil)))))))))))))))
theorem tm__law_is_right {P : Program} {w : World} {K : PySem.W.Frag} {TB : List (Addr × Str)} {mg : Str → Option Value} {base : Heap} {cBadBase : Addr} {cBadDigits : Addr} {cBadNumber : Addr} {cBadSteps : Addr} {cBadWay : Addr} {cOtherBase : Addr} {cBadReader : Addr} {cTooMany : Addr} (T : Txt K mg cBadBase cBadDigits cBadNumber cBadSteps cBadWay cOtherBase cBadReader cTooMany) (D__law_any : Dfn P w K mg base "_law_any" 2 (spB K TB 2 S__law_any)) (D__law_carry_number : Dfn P w K mg base "_law_carry_number" 1 (spA K TB 3 S__law_carry_number)) (D__law_draw : Dfn P w K mg base "_law_draw" 1 (spB K TB 2 S__law_draw)) (D__law_great : Dfn P w K mg base "_law_great" 3 (spB K TB 1 S__law_great)) (D__law_in_product : Dfn P w K mg base "_law_in_product" 1 (spA K TB 2 S__law_in_product)) (D__law_is : Dfn P w K mg base "_law_is" 5 (spA K TB 2 (S__law_is 4))) (D__law_often : Dfn P w K mg base "_law_often" 1 (spA K TB 2 S__law_often)) (D__law_prime : Dfn P w K mg base "_law_prime" 3 (spB K TB 2 S__law_prime)) (D__law_zeros : Dfn P w K mg base "_law_zeros" 2 (spA K TB 2 S__law_zeros)) (D_carry_number : Dfn P w K mg base "carry_number" 3 (spA K TB 3 (S_carry_number cBadBase cBadNumber))) (D_often_by_figures : Dfn P w K mg base "often_by_figures" 4 (spA K TB 2 (S_often_by_figures cBadBase cBadNumber))) (D_often_in : Dfn P w K mg base "often_in" 4 (spA K TB 2 (S_often_in cBadBase cBadNumber))) (D_often_in_choices : Dfn P w K mg base "often_in_choices" 4 (spA K TB 3 (S_often_in_choices cBadBase cBadNumber))) (D_often_in_product : Dfn P w K mg base "often_in_product" 4 (spA K TB 2 (S_often_in_product cBadBase cBadNumber))) (D_zeros_of_product : Dfn P w K mg base "zeros_of_product" 5 (spA K TB 2 (S_zeros_of_product cBadBase cBadNumber))) (cdv : Value) (A : Around) (outer : List Env) (s : Shared) (H : Hp) (E : XK) {f : Addr} (hr : Room 5 (A.deeper (envOfC "_law_is_right" (defScope s__law_is_right) s.heap.objs.size f cdv))) :
    PSs (cxOf (L2.CX P w) P w K mg base ["hand", "number", "some", "prime", "due", "told", "lots", "base"] "_law_is_right" (defScope s__law_is_right) f cdv A outer s H E) (defBody s__law_is_right) (upS K TB (fun cls d _ H => E cls d H) (rd__law_is_right cBadBase cBadNumber)) := by
  have nd := sc__law_is_right.nd
  have tk : Takes (cxOf (L2.CX P w) P w K mg base ["hand", "number", "some", "prime", "due", "told", "lots", "base"] "_law_is_right" (defScope s__law_is_right) f cdv A outer s H E) (fun cls d _ H => E cls d H) := takes_of rfl rfl rfl rfl
  exact (ds_cons (ds_par3 (i0 := 1) (i1 := 2) (i2 := 3) rfl nd (da_cons (dx_defO 0 D__law_great tk hr (by decide) l__law_great da_nil) (da_cons (dx_defO 0 D__law_great tk hr (by decide) l__law_great da_nil) (da_cons (dx_defO 0 D__law_prime tk hr (by decide) l__law_prime (da_cons dx_bl da_nil)) da_nil))))
  (ds_cons (ds_set (i := 2) nd rfl (.inl rfl) (dx_defO 0 D__law_any tk hr (by decide) l__law_any (da_cons (dx_f (df_lst (da_cons (dx_var 2) (da_cons (dx_defO 0 D__law_draw tk hr (by decide) l__law_draw (da_cons (dx_add (dx_var 1) dx_int) da_nil)) (da_cons (dx_var 1) da_nil))))) da_nil)))
  (ds_cons (ds_set (i := 4) nd rfl (.inl rfl) (dx_def D__law_in_product tk hr (by decide) l__law_in_product (da_cons (dx_var 1) (da_cons (dx_var 3) da_nil))))
  (ds_cons (ds_if (dt_not (dt_val (dx_def D__law_is tk hr (by decide) l__law_is (da_cons (dx_f (df_lst (da_cons (dx_def D_often_in_product tk hr (by decide) l_often_in_product (da_cons (dx_var 1) (da_cons (dx_var 3) da_nil))) (da_cons (dx_def D_often_by_figures tk hr (by decide) l_often_by_figures (da_cons (dx_var 1) (da_cons (dx_var 3) da_nil))) da_nil)))) (da_cons (dx_f (df_lst (da_cons (dx_var 4) (da_cons (dx_var 4) da_nil)))) da_nil))))) (ds_one (ds_ret dx_bl)) ds_nil)
  (ds_cons (ds_if (dt_not (dt_val (dx_def D__law_is tk hr (by decide) l__law_is (da_cons (dx_def D_often_in tk hr (by decide) l_often_in (da_cons (dx_callB (call_max2 rfl) lc_max2 T.z_max b_max (da_cons dx_int (da_cons (dx_var 1) da_nil))) (da_cons (dx_var 3) da_nil))) (da_cons (dx_def D__law_often tk hr (by decide) l__law_often (da_cons (dx_callB (call_max2 rfl) lc_max2 T.z_max b_max (da_cons dx_int (da_cons (dx_var 1) da_nil))) (da_cons (dx_var 3) da_nil))) da_nil))))) (ds_one (ds_ret dx_bl)) ds_nil)
  (ds_cons (ds_set (i := 5) nd rfl (.inl rfl) (dx_def D_often_in_choices tk hr (by decide) l_often_in_choices (da_cons (dx_var 1) (da_cons (dx_var 2) (da_cons (dx_var 3) da_nil)))))
  (ds_cons (ds_if (dt_gt (dx_var 2) (dx_var 1)) (ds_one (ds_ret (dx_is (dx_var 5) dx_non))) ds_nil)
  (ds_cons (ds_set (i := 6) nd rfl (.inl rfl) (dx_sub (dx_sub (dx_var 4) (dx_def D__law_in_product tk hr (by decide) l__law_in_product (da_cons (dx_var 2) (da_cons (dx_var 3) da_nil)))) (dx_def D__law_in_product tk hr (by decide) l__law_in_product (da_cons (dx_sub (dx_var 1) (dx_var 2)) (da_cons (dx_var 3) da_nil)))))
  (ds_cons (ds_if (dt_not (dt_val (dx_def D__law_is tk hr (by decide) l__law_is (da_cons (dx_f (df_lst (da_cons (dx_var 5) (da_cons (dx_def D_carry_number tk hr (by decide) l_carry_number (da_cons (dx_var 2) (da_cons (dx_sub (dx_var 1) (dx_var 2)) (da_cons (dx_var 3) da_nil)))) da_nil)))) (da_cons (dx_f (df_lst (da_cons (dx_var 6) (da_cons (dx_var 6) da_nil)))) da_nil))))) (ds_one (ds_ret dx_bl)) ds_nil)
  (ds_cons (ds_if (dt_ne hr.units (dx_var 6) (dx_def D__law_carry_number tk hr (by decide) l__law_carry_number (da_cons (dx_var 2) (da_cons (dx_sub (dx_var 1) (dx_var 2)) (da_cons (dx_var 3) da_nil))))) (ds_one (ds_ret dx_bl)) ds_nil)
  (ds_cons (ds_set (i := 7) nd rfl (.inl rfl) (dx_defO 0 D__law_any tk hr (by decide) l__law_any (da_cons (dx_f (df_lst (da_cons dx_int (da_cons dx_int (da_cons dx_int (da_cons dx_int (da_cons dx_int (da_cons dx_int (da_cons dx_int (da_cons dx_int (da_cons (dx_add dx_int (dx_defO 0 D__law_draw tk hr (by decide) l__law_draw (da_cons dx_int da_nil))) (da_cons (dx_pow dx_int dx_int) (da_cons dx_int da_nil))))))))))))) da_nil)))
  (ds_one (ds_ret (dx_def D__law_is tk hr (by decide) l__law_is (da_cons (dx_def D_zeros_of_product tk hr (by decide) l_zeros_of_product (da_cons (dx_var 1) (da_cons (dx_var 7) da_nil))) (da_cons (dx_def D__law_zeros tk hr (by decide) l__law_zeros (da_cons (dx_var 1) (da_cons (dx_var 7) da_nil))) da_nil))))))))))))))))
/-! ### _law_product -/
abbrev s__law_product : Stmt := topS 43
theorem sc__law_product : FnScope ["number", "found", "at"] ["number"] (defScope s__law_product) := ⟨rfl, rfl, rfl, by decide +kernel, rfl, by decide +kernel, by decide +kernel⟩
def rd__law_product : DS := (sSeq (sSet 1 (dC (.int 1)))
  (sSeq (sFor (iR2 (aCons (dC (.int 2)) (aCons (dBin fAdd (dVar 0) (dC (.int 1))) aNil))) (gN 2) (sSet 1 (dBin fMul (dVar 1) (dVar 2))))
  (sRet (dVar 1))))
theorem tm__law_product {P : Program} {w : World} {K : PySem.W.Frag} {TB : List (Addr × Str)} {mg : Str → Option Value} {base : Heap} {cBadBase : Addr} {cBadDigits : Addr} {cBadNumber : Addr} {cBadSteps : Addr} {cBadWay : Addr} {cOtherBase : Addr} {cBadReader : Addr} {cTooMany : Addr} (T : Txt K mg cBadBase cBadDigits cBadNumber cBadSteps cBadWay cOtherBase cBadReader cTooMany)  (cdv : Value) (A : Around) (outer : List Env) (s : Shared) (H : Hp) (E : XK) {f : Addr} (hr : Room 0 (A.deeper (envOfC "_law_product" (defScope s__law_product) s.heap.objs.size f cdv))) :
    PSs (cxOf (L2.CX P w) P w K mg base ["number", "found", "at"] "_law_product" (defScope s__law_product) f cdv A outer s H E) (defBody s__law_product) (upS K TB (fun cls d _ H => E cls d H) rd__law_product) := by
  have nd := sc__law_product.nd
  have hp : PassesOwn (model P w) (A.deeper (envOfC "_law_product" (defScope s__law_product) s.heap.objs.size f cdv)) (envOfC "_law_product" (defScope s__law_product) s.heap.objs.size f cdv) (cxOf (L2.CX P w) P w K mg base ["number", "found", "at"] "_law_product" (defScope s__law_product) f cdv A outer s H E).xe := passes_of rfl
  exact (ds_cons (ds_set (i := 1) nd rfl (.inl rfl) dx_int)
  (ds_cons (ds_for hp rfl (di_r2 T.z_range (da_cons dx_int (da_cons (dx_add (dx_var 0) dx_int) da_nil))) (dg_n (i := 2) (vs := [2]) (by decide) nd rfl (.inl rfl)) (ds_one (ds_set (i := 1) nd rfl (.inl rfl) (dx_mul (dx_var 1) (dx_var 2)))))
  (ds_one (ds_ret (dx_var 1)))))
/-! ### _law_rest -/
abbrev s__law_rest : Stmt := topS 44
theorem sc__law_rest : FnScope ["number", "prime", "found", "at"] ["number", "prime"] (defScope s__law_rest) := ⟨rfl, rfl, rfl, by decide +kernel, rfl, by decide +kernel, by decide +kernel⟩
def rd__law_rest : DS := (sSeq (sSet 2 (dC (.int 1)))
  (sSeq (sWhile (dB (dBin fGt (dVar 0) (dC (.int 0)))) (sCut (sIf (dB (dBin fEq (dBin fMod (dCB gInt (aCons (dBin fDiv (dVar 0) (dVar 1)) aNil)) (dC (.int 2))) (dC (.int 1)))) (sSet 2 (dBin fMod (dCB gInt (aCons (dBin fMul (dVar 2) (dBin fSub (dVar 1) (dC (.int 1)))) aNil)) (dVar 1))) sSkip)
  (sSeq (sFor (iR2 (aCons (dC (.int 2)) (aCons (dBin fAdd (dBin fMod (dCB gInt (aCons (dVar 0) aNil)) (dVar 1)) (dC (.int 1))) aNil))) (gN 3) (sSet 2 (dBin fMod (dCB gInt (aCons (dBin fMul (dVar 2) (dVar 3)) aNil)) (dVar 1))))
  (sSet 0 (dBin fDiv (dVar 0) (dVar 1))))))
  (sRet (dBin fMod (dCB gInt (aCons (dVar 2) aNil)) (dVar 1)))))
theorem tm__law_rest {P : Program} {w : World} {K : PySem.W.Frag} {TB : List (Addr × Str)} {mg : Str → Option Value} {base : Heap} {cBadBase : Addr} {cBadDigits : Addr} {cBadNumber : Addr} {cBadSteps : Addr} {cBadWay : Addr} {cOtherBase : Addr} {cBadReader : Addr} {cTooMany : Addr} (T : Txt K mg cBadBase cBadDigits cBadNumber cBadSteps cBadWay cOtherBase cBadReader cTooMany)  (cdv : Value) (A : Around) (outer : List Env) (s : Shared) (H : Hp) (E : XK) {f : Addr} (hr : Room 0 (A.deeper (envOfC "_law_rest" (defScope s__law_rest) s.heap.objs.size f cdv))) :
    PSs (cxOf (L2.CX P w) P w K mg base ["number", "prime", "found", "at"] "_law_rest" (defScope s__law_rest) f cdv A outer s H E) (defBody s__law_rest) (upS K TB (fun cls d _ H => E cls d H) rd__law_rest) := by
  have nd := sc__law_rest.nd
  have hp : PassesOwn (model P w) (A.deeper (envOfC "_law_rest" (defScope s__law_rest) s.heap.objs.size f cdv)) (envOfC "_law_rest" (defScope s__law_rest) s.heap.objs.size f cdv) (cxOf (L2.CX P w) P w K mg base ["number", "prime", "found", "at"] "_law_rest" (defScope s__law_rest) f cdv A outer s H E).xe := passes_of rfl
  exact (ds_cons (ds_set (i := 2) nd rfl (.inl rfl) dx_int)
  (ds_cons (ds_while hp (dt_gt (dx_var 0) dx_int) (ds_cut (ds_if (dt_eq hr.units (dx_mod (dx_callTy call_int1 lc_int T.z_int b_int (da_cons (dx_div (dx_var 0) (dx_var 1)) da_nil)) dx_int) dx_int) (ds_one (ds_set (i := 2) nd rfl (.inl rfl) (dx_mod (dx_callTy call_int1 lc_int T.z_int b_int (da_cons (dx_mul (dx_var 2) (dx_sub (dx_var 1) dx_int)) da_nil)) (dx_var 1)))) ds_nil)
  (ds_cons (ds_for hp rfl (di_r2 T.z_range (da_cons dx_int (da_cons (dx_add (dx_mod (dx_callTy call_int1 lc_int T.z_int b_int (da_cons (dx_var 0) da_nil)) (dx_var 1)) dx_int) da_nil))) (dg_n (i := 3) (vs := [3]) (by decide) nd rfl (.inl rfl)) (ds_one (ds_set (i := 2) nd rfl (.inl rfl) (dx_mod (dx_callTy call_int1 lc_int T.z_int b_int (da_cons (dx_mul (dx_var 2) (dx_var 3)) da_nil)) (dx_var 1)))))
  (ds_one (ds_set (i := 0) nd rfl (.inl rfl) (dx_div (dx_var 0) (dx_var 1)))))))
  (ds_one (ds_ret (dx_mod (dx_callTy call_int1 lc_int T.z_int b_int (da_cons (dx_var 2) da_nil)) (dx_var 1))))))
/-! ### _law_last -/
abbrev s__law_last : Stmt := topS 45
theorem sc__law_last : FnScope ["number", "found", "fives", "twos"] ["number"] (defScope s__law_last) := ⟨rfl, rfl, rfl, by decide +kernel, rfl, by decide +kernel, by decide +kernel⟩
def rd__law_last : DS := (sSeq (sSet 1 (dC (.int 1)))
  (sSeq (sWhile (dB (dBin fGt (dVar 0) (dC (.int 0)))) (sSeq (sSet 2 (dBin fDiv (dVar 0) (dC (.int 5))))
  (sSeq (sSet 3 (dIfE (dB (dBin fGt (dVar 2) (dC (.int 0)))) (dBin fIx (dF (fLst (aCons (dC (.int 6)) (aCons (dC (.int 2)) (aCons (dC (.int 4)) (aCons (dC (.int 8)) aNil)))))) (dBin fMod (dCB gInt (aCons (dVar 2) aNil)) (dC (.int 4)))) (dC (.int 1))))
  (sSeq (sSet 1 (dBin fMod (dCB gInt (aCons (dBin fMul (dBin fMul (dVar 1) (dVar 3)) (dBin fIx (dF (fLst (aCons (dC (.int 1)) (aCons (dC (.int 1)) (aCons (dC (.int 2)) (aCons (dC (.int 6)) (aCons (dC (.int 4)) aNil))))))) (dBin fMod (dCB gInt (aCons (dVar 0) aNil)) (dC (.int 5))))) aNil)) (dC (.int 10))))
  (sSet 0 (dVar 2))))))
  (sRet (dVar 1))))
theorem tm__law_last {P : Program} {w : World} {K : PySem.W.Frag} {TB : List (Addr × Str)} {mg : Str → Option Value} {base : Heap} {cBadBase : Addr} {cBadDigits : Addr} {cBadNumber : Addr} {cBadSteps : Addr} {cBadWay : Addr} {cOtherBase : Addr} {cBadReader : Addr} {cTooMany : Addr} (T : Txt K mg cBadBase cBadDigits cBadNumber cBadSteps cBadWay cOtherBase cBadReader cTooMany)  (cdv : Value) (A : Around) (outer : List Env) (s : Shared) (H : Hp) (E : XK) {f : Addr} (hr : Room 0 (A.deeper (envOfC "_law_last" (defScope s__law_last) s.heap.objs.size f cdv))) :
    PSs (cxOf (L2.CX P w) P w K mg base ["number", "found", "fives", "twos"] "_law_last" (defScope s__law_last) f cdv A outer s H E) (defBody s__law_last) (upS K TB (fun cls d _ H => E cls d H) rd__law_last) := by
  have nd := sc__law_last.nd
  have hp : PassesOwn (model P w) (A.deeper (envOfC "_law_last" (defScope s__law_last) s.heap.objs.size f cdv)) (envOfC "_law_last" (defScope s__law_last) s.heap.objs.size f cdv) (cxOf (L2.CX P w) P w K mg base ["number", "found", "fives", "twos"] "_law_last" (defScope s__law_last) f cdv A outer s H E).xe := passes_of rfl
  exact (ds_cons (ds_set (i := 1) nd rfl (.inl rfl) dx_int)
  (ds_cons (ds_while hp (dt_gt (dx_var 0) dx_int) (ds_cons (ds_set (i := 2) nd rfl (.inl rfl) (dx_div (dx_var 0) dx_int))
  (ds_cons (ds_set (i := 3) nd rfl (.inl rfl) (dx_ifExp (dt_gt (dx_var 2) dx_int) (dx_ix (dx_f (df_lst (da_cons dx_int (da_cons dx_int (da_cons dx_int (da_cons dx_int da_nil)))))) (dx_mod (dx_callTy call_int1 lc_int T.z_int b_int (da_cons (dx_var 2) da_nil)) dx_int)) dx_int))
  (ds_cons (ds_set (i := 1) nd rfl (.inl rfl) (dx_mod (dx_callTy call_int1 lc_int T.z_int b_int (da_cons (dx_mul (dx_mul (dx_var 1) (dx_var 3)) (dx_ix (dx_f (df_lst (da_cons dx_int (da_cons dx_int (da_cons dx_int (da_cons dx_int (da_cons dx_int da_nil))))))) (dx_mod (dx_callTy call_int1 lc_int T.z_int b_int (da_cons (dx_var 0) da_nil)) dx_int))) da_nil)) dx_int))
  (ds_one (ds_set (i := 0) nd rfl (.inl rfl) (dx_var 2)))))))
  (ds_one (ds_ret (dx_var 1)))))
/-! ### _law_are_rests_right -/
abbrev s__law_are_rests_right : Stmt := topS 49
theorem sc__law_are_rests_right : FnScope ["hand", "number", "prime", "told", "small", "whole", "without", "tens"] ["hand"] (defScope s__law_are_rests_right) := ⟨rfl, rfl, rfl, by decide +kernel, rfl, by decide +kernel, by decide +kernel⟩
def rd__law_are_rests_right (cBadBase : Addr) (cBadNumber : Addr) : DS := (sSeq (sPar 1 2 (aCons (dCallO 0 S__law_great aNil) (aCons (dCallO 0 S__law_prime (aCons (dC (.bl false)) aNil)) aNil)))
  (sSeq (sSet 3 (dF (fLst (aCons (dCall (S_rest_of_product cBadBase cBadNumber) (aCons (dVar 1) (aCons (dVar 2) aNil))) (aCons (dCall (S_last_figure_of_product cBadBase cBadNumber) (aCons (dVar 1) aNil)) aNil)))))
  (sSeq (sIf (dNotT (dB (dCall (S__law_is 4) (aCons (dVar 3) (aCons (dF (fLst (aCons (dCall S__law_rest (aCons (dVar 1) (aCons (dVar 2) aNil))) (aCons (dCall S__law_last (aCons (dVar 1) aNil)) aNil)))) aNil))))) (sRet (dC (.bl false))) sSkip)
  (sSeq (sPar 4 2 (aCons (dCallO 0 S__law_draw (aCons (dC (.int 60)) aNil)) (aCons (dCallO 0 S__law_any (aCons (dF (fLst (aCons (dC (.int 2)) (aCons (dC (.int 3)) (aCons (dC (.int 5)) (aCons (dC (.int 7)) (aCons (dC (.int 11)) (aCons (dC (.int 53)) aNil)))))))) aNil)) aNil)))
  (sSeq (sSet 5 (dCall S__law_product (aCons (dVar 4) aNil)))
  (sSeq (sPar 6 7 (aCons (dVar 5) (aCons (dVar 5) aNil)))
  (sSeq (sWhile (dB (dBin fEq (dBin fMod (dCB gInt (aCons (dVar 6) aNil)) (dVar 2)) (dC (.int 0)))) (sSet 6 (dBin fDiv (dVar 6) (dVar 2))))
  (sSeq (sWhile (dB (dBin fEq (dBin fMod (dCB gInt (aCons (dVar 7) aNil)) (dC (.int 10))) (dC (.int 0)))) (sSet 7 (dBin fDiv (dVar 7) (dC (.int 10)))))
  (sSeq (sSet 3 (dF (fLst (aCons (dCall (S_rest_of_product cBadBase cBadNumber) (aCons (dVar 4) (aCons (dVar 2) aNil))) (aCons (dCall (S_last_figure_of_product cBadBase cBadNumber) (aCons (dVar 4) aNil)) (aCons (dCall (S_often_in_product cBadBase cBadNumber) (aCons (dVar 4) (aCons (dVar 2) aNil))) aNil))))))
  (sRet (dCall (S__law_is 4) (aCons (dVar 3) (aCons (dF (fLst (aCons (dBin fMod (dCB gInt (aCons (dVar 6) aNil)) (dVar 2)) (aCons (dBin fMod (dCB gInt (aCons (dVar 7) aNil)) (dC (.int 10))) (aCons (dCall S__law_often (aCons (dVar 5) (aCons (dVar 2) aNil))) aNil))))) aNil)))))))))))))
theorem tm__law_are_rests_right {P : Program} {w : World} {K : PySem.W.Frag} {TB : List (Addr × Str)} {mg : Str → Option Value} {base : Heap} {cBadBase : Addr} {cBadDigits : Addr} {cBadNumber : Addr} {cBadSteps : Addr} {cBadWay : Addr} {cOtherBase : Addr} {cBadReader : Addr} {cTooMany : Addr} (T : Txt K mg cBadBase cBadDigits cBadNumber cBadSteps cBadWay cOtherBase cBadReader cTooMany) (D__law_any : Dfn P w K mg base "_law_any" 2 (spB K TB 2 S__law_any)) (D__law_draw : Dfn P w K mg base "_law_draw" 1 (spB K TB 2 S__law_draw)) (D__law_great : Dfn P w K mg base "_law_great" 3 (spB K TB 1 S__law_great)) (D__law_is : Dfn P w K mg base "_law_is" 5 (spA K TB 2 (S__law_is 4))) (D__law_last : Dfn P w K mg base "_law_last" 1 (spA K TB 1 S__law_last)) (D__law_often : Dfn P w K mg base "_law_often" 1 (spA K TB 2 S__law_often)) (D__law_prime : Dfn P w K mg base "_law_prime" 3 (spB K TB 2 S__law_prime)) (D__law_product : Dfn P w K mg base "_law_product" 1 (spA K TB 1 S__law_product)) (D__law_rest : Dfn P w K mg base "_law_rest" 1 (spA K TB 2 S__law_rest)) (D_last_figure_of_product : Dfn P w K mg base "last_figure_of_product" 5 (spA K TB 1 (S_last_figure_of_product cBadBase cBadNumber))) (D_often_in_product : Dfn P w K mg base "often_in_product" 4 (spA K TB 2 (S_often_in_product cBadBase cBadNumber))) (D_rest_of_product : Dfn P w K mg base "rest_of_product" 4 (spA K TB 2 (S_rest_of_product cBadBase cBadNumber))) (cdv : Value) (A : Around) (outer : List Env) (s : Shared) (H : Hp) (E : XK) {f : Addr} (hr : Room 5 (A.deeper (envOfC "_law_are_rests_right" (defScope s__law_are_rests_right) s.heap.objs.size f cdv))) :
    PSs (cxOf (L2.CX P w) P w K mg base ["hand", "number", "prime", "told", "small", "whole", "without", "tens"] "_law_are_rests_right" (defScope s__law_are_rests_right) f cdv A outer s H E) (defBody s__law_are_rests_right) (upS K TB (fun cls d _ H => E cls d H) (rd__law_are_rests_right cBadBase cBadNumber)) := by
  have nd := sc__law_are_rests_right.nd
  have tk : Takes (cxOf (L2.CX P w) P w K mg base ["hand", "number", "prime", "told", "small", "whole", "without", "tens"] "_law_are_rests_right" (defScope s__law_are_rests_right) f cdv A outer s H E) (fun cls d _ H => E cls d H) := takes_of rfl rfl rfl rfl
  have hp : PassesOwn (model P w) (A.deeper (envOfC "_law_are_rests_right" (defScope s__law_are_rests_right) s.heap.objs.size f cdv)) (envOfC "_law_are_rests_right" (defScope s__law_are_rests_right) s.heap.objs.size f cdv) (cxOf (L2.CX P w) P w K mg base ["hand", "number", "prime", "told", "small", "whole", "without", "tens"] "_law_are_rests_right" (defScope s__law_are_rests_right) f cdv A outer s H E).xe := passes_of rfl
  exact (ds_cons (ds_par (i := 1) (j := 2) rfl nd rfl rfl (by decide) rfl rfl (da_cons (dx_defO 0 D__law_great tk hr (by decide) l__law_great da_nil) (da_cons (dx_defO 0 D__law_prime tk hr (by decide) l__law_prime (da_cons dx_bl da_nil)) da_nil)))
  (ds_cons (ds_set (i := 3) nd rfl (.inl rfl) (dx_f (df_lst (da_cons (dx_def D_rest_of_product tk hr (by decide) l_rest_of_product (da_cons (dx_var 1) (da_cons (dx_var 2) da_nil))) (da_cons (dx_def D_last_figure_of_product tk hr (by decide) l_last_figure_of_product (da_cons (dx_var 1) da_nil)) da_nil)))))
  (ds_cons (ds_if (dt_not (dt_val (dx_def D__law_is tk hr (by decide) l__law_is (da_cons (dx_var 3) (da_cons (dx_f (df_lst (da_cons (dx_def D__law_rest tk hr (by decide) l__law_rest (da_cons (dx_var 1) (da_cons (dx_var 2) da_nil))) (da_cons (dx_def D__law_last tk hr (by decide) l__law_last (da_cons (dx_var 1) da_nil)) da_nil)))) da_nil))))) (ds_one (ds_ret dx_bl)) ds_nil)
  (ds_cons (ds_par (i := 4) (j := 2) rfl nd rfl rfl (by decide) rfl rfl (da_cons (dx_defO 0 D__law_draw tk hr (by decide) l__law_draw (da_cons dx_int da_nil)) (da_cons (dx_defO 0 D__law_any tk hr (by decide) l__law_any (da_cons (dx_f (df_lst (da_cons dx_int (da_cons dx_int (da_cons dx_int (da_cons dx_int (da_cons dx_int (da_cons dx_int da_nil)))))))) da_nil)) da_nil)))
  (ds_cons (ds_set (i := 5) nd rfl (.inl rfl) (dx_def D__law_product tk hr (by decide) l__law_product (da_cons (dx_var 4) da_nil)))
  (ds_cons (ds_par (i := 6) (j := 7) rfl nd rfl rfl (by decide) rfl rfl (da_cons (dx_var 5) (da_cons (dx_var 5) da_nil)))
  (ds_cons (ds_while hp (dt_eq hr.units (dx_mod (dx_callTy call_int1 lc_int T.z_int b_int (da_cons (dx_var 6) da_nil)) (dx_var 2)) dx_int) (ds_one (ds_set (i := 6) nd rfl (.inl rfl) (dx_div (dx_var 6) (dx_var 2)))))
  (ds_cons (ds_while hp (dt_eq hr.units (dx_mod (dx_callTy call_int1 lc_int T.z_int b_int (da_cons (dx_var 7) da_nil)) dx_int) dx_int) (ds_one (ds_set (i := 7) nd rfl (.inl rfl) (dx_div (dx_var 7) dx_int))))
  (ds_cons (ds_set (i := 3) nd rfl (.inl rfl) (dx_f (df_lst (da_cons (dx_def D_rest_of_product tk hr (by decide) l_rest_of_product (da_cons (dx_var 4) (da_cons (dx_var 2) da_nil))) (da_cons (dx_def D_last_figure_of_product tk hr (by decide) l_last_figure_of_product (da_cons (dx_var 4) da_nil)) (da_cons (dx_def D_often_in_product tk hr (by decide) l_often_in_product (da_cons (dx_var 4) (da_cons (dx_var 2) da_nil))) da_nil))))))
  (ds_one (ds_ret (dx_def D__law_is tk hr (by decide) l__law_is (da_cons (dx_var 3) (da_cons (dx_f (df_lst (da_cons (dx_mod (dx_callTy call_int1 lc_int T.z_int b_int (da_cons (dx_var 6) da_nil)) (dx_var 2)) (da_cons (dx_mod (dx_callTy call_int1 lc_int T.z_int b_int (da_cons (dx_var 7) da_nil)) dx_int) (da_cons (dx_def D__law_often tk hr (by decide) l__law_often (da_cons (dx_var 5) (da_cons (dx_var 2) da_nil))) da_nil))))) da_nil))))))))))))))
/-! ### _law_word -/
abbrev s__law_word : Stmt := topS 37
theorem sc__law_word : FnScope ["call", "found", "error", "flags", "words"] ["call"] (defScope s__law_word) := ⟨rfl, rfl, rfl, by decide +kernel, rfl, by decide +kernel, by decide +kernel⟩
def rs__law_word (K : PySem.W.Frag) (cBadBase cBadDigits cBadNumber cBadSteps cBadWay cOtherBase cBadReader cTooMany : Addr) (a : Addr) (cls : Value) (d : Option Addr) : DS := (sSeq (sSet 3 (dF (fLst (aCons (dCB (gIsE K cls d a) (aCons (dVar 2) (aCons (dC (.opq (.ref cBadBase))) aNil))) (aCons (dCB (gIsE K cls d a) (aCons (dVar 2) (aCons (dC (.opq (.ref cBadDigits))) aNil))) (aCons (dCB (gIsE K cls d a) (aCons (dVar 2) (aCons (dC (.opq (.ref cBadNumber))) aNil))) aNil))))))
  (sSeq (sSet 3 (dF (fCatL (dVar 3) (dF (fLst (aCons (dCB (gIsE K cls d a) (aCons (dVar 2) (aCons (dC (.opq (.ref cBadReader))) aNil))) (aCons (dCB (gIsE K cls d a) (aCons (dVar 2) (aCons (dC (.opq (.ref cBadSteps))) aNil))) (aCons (dCB (gIsE K cls d a) (aCons (dVar 2) (aCons (dC (.opq (.ref cBadWay))) aNil))) aNil))))))))
  (sSeq (sSet 3 (dF (fCatL (dVar 3) (dF (fLst (aCons (dCB (gIsE K cls d a) (aCons (dVar 2) (aCons (dC (.opq (.ref cOtherBase))) aNil))) (aCons (dCB (gIsE K cls d a) (aCons (dVar 2) (aCons (dC (.opq (.ref cTooMany))) aNil))) aNil)))))))
  (sSeq (sSet 4 (dF (fLst (aCons (dC (.str (PySem.Str.ofString "base"))) (aCons (dC (.str (PySem.Str.ofString "figures"))) (aCons (dC (.str (PySem.Str.ofString "number"))) (aCons (dC (.str (PySem.Str.ofString "reader"))) (aCons (dC (.str (PySem.Str.ofString "steps"))) (aCons (dC (.str (PySem.Str.ofString "way"))) (aCons (dC (.str (PySem.Str.ofString "other"))) (aCons (dC (.str (PySem.Str.ofString "most"))) aNil)))))))))))
  (sSeq (sSet 1 (dIfE (dAndT (dB (dBin fEq (dMeth gCnt (dVar 3) (dC (.bl true))) (dC (.int 1)))) (dB (dCB (gIsE K cls d a) (aCons (dVar 2) (aCons (dC (.opq (.ty "ValueError"))) aNil))))) (dBin fIx (dVar 4) (dMeth gIdx (dVar 3) (dC (.bl true)))) (dC (.str (PySem.Str.ofString "odd")))))
  (sSeq (sSet 1 (dIfE (dB (dBin fEq (dVar 1) (dC (.str (PySem.Str.ofString "reader"))))) (dTup (aCons (dC (.str (PySem.Str.ofString "reader"))) (aCons dStuck aNil))) (dVar 1)))
  (sSet 1 (dIfE (dB (dBin fEq (dVar 1) (dC (.str (PySem.Str.ofString "most"))))) (dTup (aCons (dC (.str (PySem.Str.ofString "most"))) (aCons dStuck aNil))) (dVar 1)))))))))
def rr__law_word : DS := sRet (dVar 1)
theorem tel__law_word {P : Program} {w : World} {K : PySem.W.Frag} {TB : List (Addr × Str)} {mg : Str → Option Value} {base : Heap} {cBadBase : Addr} {cBadDigits : Addr} {cBadNumber : Addr} {cBadSteps : Addr} {cBadWay : Addr} {cOtherBase : Addr} {cBadReader : Addr} {cTooMany : Addr} {cTermError : Addr} (T : Txt K mg cBadBase cBadDigits cBadNumber cBadSteps cBadWay cOtherBase cBadReader cTooMany) (hTE : mg "TermError" = some (.ref cTermError)) {q : Str} {g : Addr} {kV doc pm cdv ct oc : Value} {an od : Option Addr} {osl : Array (Option Value)} (hm : mg "_law_word" = some (.ref g)) (hk : PySem.W.keepIn K (.ref g) = true)
    (lk : K.lookup g = some ⟨oc, od, .func (PySem.W.fnOf "_law_word" "_law_word" (defArgs s__law_word) (defBody s__law_word) (defScope s__law_word) .none kV doc pm an cdv ct), osl⟩) (hcd : PySem.W.codeIn K cdv "_law_word" = true) (hB : L2.Binds K (PySem.W.fnOf "_law_word" "_law_word" (defArgs s__law_word) (defBody s__law_word) (defScope s__law_word) .none kV doc pm an cdv ct) ["call"] [])
    (hd : ∀ C y, fe__law_word cBadBase cBadDigits cBadNumber cBadSteps cBadWay cOtherBase cBadReader cTooMany C y → PySem.W.exmOne K (.ref C) (.ref cTermError) = some true ∧ ∀ a (Qd : Rf → Prop), Qd (Rf.d y) → rs__law_word K cBadBase cBadDigits cBadNumber cBadSteps cBadWay cOtherBase cBadReader cTooMany a (.ref C) none { nx := fun δ' => rr__law_word (endA Qd fun _ => False) (δ'.set 2 .u), rt := fun rv _ => Qd rv.out } ((List.replicate 5 .u).set 2 (.d (.opq (.ref a)))))
    (hn : ∀ (f : Addr) (Qd : Rf → Prop), Qd (Rf.d fr__law_word) → rr__law_word (endA Qd fun _ => False) [.d (.opq (.ref f)), .d (.str "told"), .u, .u, .u]) : Tel P w K TB mg base "_law_word" q (fe__law_word cBadBase cBadDigits cBadNumber cBadSteps cBadWay cOtherBase cBadReader cTooMany) fr__law_word := by
  refine ⟨g, "call", defArgs s__law_word, defBody s__law_word, defScope s__law_word, .none, kV, doc, pm, cdv, ct, oc, an, od, osl, ["call", "found", "error", "flags", "words"], hm, hk, lk, hcd, hB, sc__law_word, rfl, .inl rfl, by decide, by decide, ?_⟩
  intro X k e1 e2 e3 e4 e5 hr0 f c' s H Q tl act hco h
  cases X with
  | mk prog w2 K2 mg2 base2 A N2 s_0 H_0 env outer stack ex fn calm pn xe =>
    dsimp only at e1 e2 e3 e4 e5
    subst e1 e2 e3 e4 e5
    have nd := sc__law_word.nd
    have hr := hr0.deeper (envOfC "_law_word" (defScope s__law_word) s.heap.objs.size g cdv)
    refine tel_pre (i := 1) nd rfl (.inl rfl) pe_str ?_
    exact tel_core (Z := (cxOf C8.CX0 prog w2 K2 mg2 base2 ["call", "found", "error", "flags", "words"] "_law_word" (defScope s__law_word) g cdv A stack s H C8.E0).nox) (T := TB) (i := 2) (fe := fe__law_word cBadBase cBadDigits cBadNumber cBadSteps cBadWay cOtherBase cBadReader cTooMany) (fr := fr__law_word) (rs := rs__law_word K2 cBadBase cBadDigits cBadNumber cBadSteps cBadWay cOtherBase cBadReader cTooMany) (rr := rr__law_word) (δ0 := [.d (.opq (.ref f)), .d (.str "told"), .u, .u, .u]) (σ0 := (L2.start ["call", "found", "error", "flags", "words"] [.ref f]).set 1 (some (.str "told"))) rfl rfl nd rfl rfl ⟨rfl, by decide, .inl hTE⟩ (fun W pn xe E => act W pn xe E _ _) (fun a oe cls d pn hz hfl => (ds_cons (ds_set (i := 3) nd rfl (.inl rfl) (dx_f (df_lst (da_cons (dx_callB (cr_isE hz hfl) lc_isE T.z_isinstance b_isinstance (da_cons (dx_var 2) (da_cons (dx_ref T.e_BadBase.g) da_nil))) (da_cons (dx_callB (cr_isE hz hfl) lc_isE T.z_isinstance b_isinstance (da_cons (dx_var 2) (da_cons (dx_ref T.e_BadDigits.g) da_nil))) (da_cons (dx_callB (cr_isE hz hfl) lc_isE T.z_isinstance b_isinstance (da_cons (dx_var 2) (da_cons (dx_ref T.e_BadNumber.g) da_nil))) da_nil))))))
  (ds_cons (ds_set (i := 3) nd rfl (.inl rfl) (dx_f (df_cat (dx_var 3) (dx_f (df_lst (da_cons (dx_callB (cr_isE hz hfl) lc_isE T.z_isinstance b_isinstance (da_cons (dx_var 2) (da_cons (dx_ref T.e_BadReader.g) da_nil))) (da_cons (dx_callB (cr_isE hz hfl) lc_isE T.z_isinstance b_isinstance (da_cons (dx_var 2) (da_cons (dx_ref T.e_BadSteps.g) da_nil))) (da_cons (dx_callB (cr_isE hz hfl) lc_isE T.z_isinstance b_isinstance (da_cons (dx_var 2) (da_cons (dx_ref T.e_BadWay.g) da_nil))) da_nil))))))))
  (ds_cons (ds_set (i := 3) nd rfl (.inl rfl) (dx_f (df_cat (dx_var 3) (dx_f (df_lst (da_cons (dx_callB (cr_isE hz hfl) lc_isE T.z_isinstance b_isinstance (da_cons (dx_var 2) (da_cons (dx_ref T.e_OtherBase.g) da_nil))) (da_cons (dx_callB (cr_isE hz hfl) lc_isE T.z_isinstance b_isinstance (da_cons (dx_var 2) (da_cons (dx_ref T.e_TooMany.g) da_nil))) da_nil)))))))
  (ds_cons (ds_set (i := 4) nd rfl (.inl rfl) (dx_f (df_lst (da_cons dx_str (da_cons dx_str (da_cons dx_str (da_cons dx_str (da_cons dx_str (da_cons dx_str (da_cons dx_str (da_cons dx_str da_nil)))))))))))
  (ds_cons (ds_set (i := 1) nd rfl (.inl rfl) (dx_ifExp (L2.PW.pt (dw_and (dt_eq hr.units (dx_count (dx_var 3) dx_bl) dx_int) (dw_and1 (dt_val (dx_callB (cr_isE hz hfl) lc_isE T.z_isinstance b_isinstance (da_cons (dx_var 2) (da_cons (dx_ty T.z_ValueError b_ValueError) da_nil))))))) (dx_ix (dx_var 4) (dx_index (dx_var 3) dx_bl)) dx_str))
  (ds_cons (ds_set (i := 1) nd rfl (.inl rfl) (dx_ifExp (dt_eq hr.units (dx_var 1) dx_str) (dx_tup (da_cons dx_str (da_cons dx_stuck da_nil))) (dx_var 1)))
  (ds_one (ds_set (i := 1) nd rfl (.inl rfl) (dx_ifExp (dt_eq hr.units (dx_var 1) dx_str) (dx_tup (da_cons dx_str (da_cons dx_stuck da_nil))) (dx_var 1))))))))))) (ds_one (ds_ret (dx_var 1))) hd (hn f) (fun _ => (.cons (s := .d (.opq (.ref f))) ⟨_, rfl, rfl⟩ (.cons (s := .d (.str "told")) ⟨_, rfl, rfl⟩ (.cons (s := .u) trivial (.cons (s := .u) trivial (.cons (s := .u) trivial .nil)))))) rfl rfl hco h
/-! ### _law_no_number -/
abbrev s__law_no_number : Stmt := topS 38
theorem sc__law_no_number : FnScope ["hand"] ["hand"] (defScope s__law_no_number) := ⟨rfl, rfl, rfl, by decide +kernel, rfl, by decide +kernel, by decide +kernel⟩
def rd__law_no_number : DS := sRet (dCallO 0 S__law_any (aCons (dF (fLst (aCons (dC .non) (aCons (dC (.bl true)) (aCons (dC (.str (PySem.Str.ofString "1"))) (aCons (dTup (aCons (dC (.int 1)) aNil)) (aCons (dF (fLst (aCons (dC (.int 1)) aNil))) (aCons dDic0 (aCons (dNeg (dC (.int 1))) (aCons (dNeg (dBin fPow (dC (.int 10)) (dC (.int 20)))) aNil)))))))))) aNil))
theorem tm__law_no_number {P : Program} {w : World} {K : PySem.W.Frag} {TB : List (Addr × Str)} {mg : Str → Option Value} {base : Heap} {cBadBase : Addr} {cBadDigits : Addr} {cBadNumber : Addr} {cBadSteps : Addr} {cBadWay : Addr} {cOtherBase : Addr} {cBadReader : Addr} {cTooMany : Addr} (T : Txt K mg cBadBase cBadDigits cBadNumber cBadSteps cBadWay cOtherBase cBadReader cTooMany) (D__law_any : Dfn P w K mg base "_law_any" 2 (spB K TB 2 S__law_any)) (cdv : Value) (A : Around) (outer : List Env) (s : Shared) (H : Hp) (E : XK) {f : Addr} (hr : Room 2 (A.deeper (envOfC "_law_no_number" (defScope s__law_no_number) s.heap.objs.size f cdv))) :
    PSs (cxOf (L2.CX P w) P w K mg base ["hand"] "_law_no_number" (defScope s__law_no_number) f cdv A outer s H E) (defBody s__law_no_number) (upS K TB (fun cls d _ H => E cls d H) rd__law_no_number) := by
  have nd := sc__law_no_number.nd
  have tk : Takes (cxOf (L2.CX P w) P w K mg base ["hand"] "_law_no_number" (defScope s__law_no_number) f cdv A outer s H E) (fun cls d _ H => E cls d H) := takes_of rfl rfl rfl rfl
  exact (ds_one (ds_ret (dx_defO 0 D__law_any tk hr (by decide) l__law_any (da_cons (dx_f (df_lst (da_cons dx_non (da_cons dx_bl (da_cons dx_str (da_cons (dx_tup (da_cons dx_int da_nil)) (da_cons (dx_f (df_lst (da_cons dx_int da_nil))) (da_cons dx_dic0 (da_cons (dx_neg dx_int) (da_cons (dx_neg (dx_pow dx_int dx_int)) da_nil)))))))))) da_nil))))
/-! ### _law_are_refused_right -/
abbrev s__law_are_refused_right : Stmt := topS 50
theorem sc__law_are_refused_right : FnScope ["hand", "no", "bad", "base", "words", "due"] ["hand"] (defScope s__law_are_refused_right) := ⟨rfl, rfl, rfl, by decide +kernel, rfl, by decide +kernel, by decide +kernel⟩
def rd__law_are_refused_right (cBadBase : Addr) (cBadDigits : Addr) (cBadNumber : Addr) (cBadSteps : Addr) (cBadWay : Addr) (cOtherBase : Addr) (cBadReader : Addr) (cTooMany : Addr) : DS := (sSeq (sSet 1 (dCallO 0 S__law_any (aCons (dF (fLst (aCons (dCallO 0 S__law_no_number aNil) (aCons (dBin fAdd (dBin fPow (dC (.int 10)) (dC (.int 60))) (dC (.int 1))) aNil)))) aNil)))
  (sSeq (sSet 2 (dCallO 0 S__law_any (aCons (dF (fLst (aCons (dC (.int 0)) (aCons (dC (.int 1)) (aCons (dC (.int 4)) (aCons (dC (.int 9)) (aCons (dC (.int 91)) (aCons (dBin fPow (dC (.int 10)) (dC (.int 6))) (aCons (dBin fAdd (dBin fPow (dC (.int 10)) (dC (.int 6))) (dC (.int 3))) (aCons (dC .non) (aCons (dC (.bl true)) (aCons (dC (.str (PySem.Str.ofString "2"))) (aCons (dNeg (dC (.int 2))) aNil))))))))))))) aNil)))
  (sSeq (sSet 3 (dCallO 0 S__law_any (aCons (dF (fLst (aCons (dC (.int 0)) (aCons (dC (.int 1)) (aCons (dBin fAdd (dBin fPow (dC (.int 10)) (dC (.int 6))) (dC (.int 1))) (aCons (dC .non) (aCons (dC (.bl true)) (aCons (dC (.str (PySem.Str.ofString "2"))) (aCons (dNeg (dC (.int 2))) aNil))))))))) aNil)))
  (sSeq (sSetF 4 (fLst (aCons (dLamO (fe__law_word cBadBase cBadDigits cBadNumber cBadSteps cBadWay cOtherBase cBadReader cTooMany) fr__law_word (dCall (S_often_in cBadBase cBadNumber) (aCons (dCallO 0 S__law_any (aCons (dF (fLst (aCons (dVar 1) (aCons (dC (.int 0)) aNil)))) aNil)) (aCons (dC (.int 2)) aNil)))) aNil)))
  (sSeq (sApp 4 (dLam (fe__law_word cBadBase cBadDigits cBadNumber cBadSteps cBadWay cOtherBase cBadReader cTooMany) fr__law_word (dCall (S_often_in cBadBase cBadNumber) (aCons (dC (.int 1)) (aCons (dVar 2) aNil)))))
  (sSeq (sApp 4 (dLam (fe__law_word cBadBase cBadDigits cBadNumber cBadSteps cBadWay cOtherBase cBadReader cTooMany) fr__law_word (dCall (S_often_in_product cBadBase cBadNumber) (aCons (dVar 1) (aCons (dC (.int 2)) aNil)))))
  (sSeq (sApp 4 (dLam (fe__law_word cBadBase cBadDigits cBadNumber cBadSteps cBadWay cOtherBase cBadReader cTooMany) fr__law_word (dCall (S_often_in_product cBadBase cBadNumber) (aCons (dC (.int 1)) (aCons (dVar 2) aNil)))))
  (sSeq (sApp 4 (dLam (fe__law_word cBadBase cBadDigits cBadNumber cBadSteps cBadWay cOtherBase cBadReader cTooMany) fr__law_word (dCall (S_often_by_figures cBadBase cBadNumber) (aCons (dVar 1) (aCons (dC (.int 3)) aNil)))))
  (sSeq (sApp 4 (dLam (fe__law_word cBadBase cBadDigits cBadNumber cBadSteps cBadWay cOtherBase cBadReader cTooMany) fr__law_word (dCall (S_often_by_figures cBadBase cBadNumber) (aCons (dC (.int 3)) (aCons (dVar 2) aNil)))))
  (sSeq (sApp 4 (dLam (fe__law_word cBadBase cBadDigits cBadNumber cBadSteps cBadWay cOtherBase cBadReader cTooMany) fr__law_word (dCall (S_often_in_choices cBadBase cBadNumber) (aCons (dVar 1) (aCons (dC (.int 1)) (aCons (dC (.int 2)) aNil))))))
  (sSeq (sApp 4 (dLam (fe__law_word cBadBase cBadDigits cBadNumber cBadSteps cBadWay cOtherBase cBadReader cTooMany) fr__law_word (dCall (S_often_in_choices cBadBase cBadNumber) (aCons (dC (.int 1)) (aCons (dVar 1) (aCons (dC (.int 2)) aNil))))))
  (sSeq (sApp 4 (dLam (fe__law_word cBadBase cBadDigits cBadNumber cBadSteps cBadWay cOtherBase cBadReader cTooMany) fr__law_word (dCall (S_often_in_choices cBadBase cBadNumber) (aCons (dC (.int 1)) (aCons (dC (.int 1)) (aCons (dVar 2) aNil))))))
  (sSeq (sApp 4 (dLam (fe__law_word cBadBase cBadDigits cBadNumber cBadSteps cBadWay cOtherBase cBadReader cTooMany) fr__law_word (dCall (S_rest_of_product cBadBase cBadNumber) (aCons (dVar 1) (aCons (dC (.int 2)) aNil)))))
  (sSeq (sApp 4 (dLam (fe__law_word cBadBase cBadDigits cBadNumber cBadSteps cBadWay cOtherBase cBadReader cTooMany) fr__law_word (dCall (S_rest_of_product cBadBase cBadNumber) (aCons (dC (.int 5)) (aCons (dVar 2) aNil)))))
  (sSeq (sApp 4 (dLam (fe__law_word cBadBase cBadDigits cBadNumber cBadSteps cBadWay cOtherBase cBadReader cTooMany) fr__law_word (dCall (S_last_figure_of_product cBadBase cBadNumber) (aCons (dVar 1) aNil))))
  (sSeq (sApp 4 (dLam (fe__law_word cBadBase cBadDigits cBadNumber cBadSteps cBadWay cOtherBase cBadReader cTooMany) fr__law_word (dCall (S_zeros_of_product cBadBase cBadNumber) (aCons (dVar 1) (aCons (dC (.int 10)) aNil)))))
  (sSeq (sApp 4 (dLam (fe__law_word cBadBase cBadDigits cBadNumber cBadSteps cBadWay cOtherBase cBadReader cTooMany) fr__law_word (dCall (S_zeros_of_product cBadBase cBadNumber) (aCons (dC (.int 5)) (aCons (dVar 3) aNil)))))
  (sSeq (sApp 4 (dLam (fe__law_word cBadBase cBadDigits cBadNumber cBadSteps cBadWay cOtherBase cBadReader cTooMany) fr__law_word (dCall (S_carry_number cBadBase cBadNumber) (aCons (dVar 1) (aCons (dC (.int 1)) (aCons (dC (.int 10)) aNil))))))
  (sSeq (sApp 4 (dLam (fe__law_word cBadBase cBadDigits cBadNumber cBadSteps cBadWay cOtherBase cBadReader cTooMany) fr__law_word (dCall (S_carry_number cBadBase cBadNumber) (aCons (dC (.int 1)) (aCons (dVar 1) (aCons (dC (.int 10)) aNil))))))
  (sSeq (sApp 4 (dLam (fe__law_word cBadBase cBadDigits cBadNumber cBadSteps cBadWay cOtherBase cBadReader cTooMany) fr__law_word (dCall (S_carry_number cBadBase cBadNumber) (aCons (dC (.int 1)) (aCons (dC (.int 1)) (aCons (dVar 3) aNil))))))
  (sSeq (sSet 5 (dF (fCatL (dF (fRepL (dF (fLst (aCons (dC (.str (PySem.Str.ofString "number"))) (aCons (dC (.str (PySem.Str.ofString "base"))) aNil)))) (dC (.int 3)))) (dF (fLst (aCons (dC (.str (PySem.Str.ofString "number"))) (aCons (dC (.str (PySem.Str.ofString "number"))) (aCons (dC (.str (PySem.Str.ofString "base"))) (aCons (dC (.str (PySem.Str.ofString "number"))) (aCons (dC (.str (PySem.Str.ofString "base"))) (aCons (dC (.str (PySem.Str.ofString "number"))) (aCons (dC (.str (PySem.Str.ofString "number"))) (aCons (dC (.str (PySem.Str.ofString "base"))) aNil)))))))))))))
  (sRet (dPeek (dBin fEq (dVar 4) (dF (fCatL (dVar 5) (dF (fLst (aCons (dC (.str (PySem.Str.ofString "number"))) (aCons (dC (.str (PySem.Str.ofString "number"))) (aCons (dC (.str (PySem.Str.ofString "base"))) aNil)))))))))))))))))))))))))))))))
theorem tm__law_are_refused_right {P : Program} {w : World} {K : PySem.W.Frag} {TB : List (Addr × Str)} {mg : Str → Option Value} {base : Heap} {cBadBase : Addr} {cBadDigits : Addr} {cBadNumber : Addr} {cBadSteps : Addr} {cBadWay : Addr} {cOtherBase : Addr} {cBadReader : Addr} {cTooMany : Addr} (T : Txt K mg cBadBase cBadDigits cBadNumber cBadSteps cBadWay cOtherBase cBadReader cTooMany) (D__law_any : Dfn P w K mg base "_law_any" 2 (spB K TB 2 S__law_any)) (D__law_no_number : Dfn P w K mg base "_law_no_number" 3 (spB K TB 1 S__law_no_number)) (D_carry_number : Dfn P w K mg base "carry_number" 3 (spA K TB 3 (S_carry_number cBadBase cBadNumber))) (D_last_figure_of_product : Dfn P w K mg base "last_figure_of_product" 5 (spA K TB 1 (S_last_figure_of_product cBadBase cBadNumber))) (D_often_by_figures : Dfn P w K mg base "often_by_figures" 4 (spA K TB 2 (S_often_by_figures cBadBase cBadNumber))) (D_often_in : Dfn P w K mg base "often_in" 4 (spA K TB 2 (S_often_in cBadBase cBadNumber))) (D_often_in_choices : Dfn P w K mg base "often_in_choices" 4 (spA K TB 3 (S_often_in_choices cBadBase cBadNumber))) (D_often_in_product : Dfn P w K mg base "often_in_product" 4 (spA K TB 2 (S_often_in_product cBadBase cBadNumber))) (D_rest_of_product : Dfn P w K mg base "rest_of_product" 4 (spA K TB 2 (S_rest_of_product cBadBase cBadNumber))) (D_zeros_of_product : Dfn P w K mg base "zeros_of_product" 5 (spA K TB 2 (S_zeros_of_product cBadBase cBadNumber))) (L__law_word : Tel P w K TB mg base "_law_word" "_law_are_refused_right.<locals>.<lambda>" (fe__law_word cBadBase cBadDigits cBadNumber cBadSteps cBadWay cOtherBase cBadReader cTooMany) fr__law_word) {cl Pl : Addr} (TBc : LamX.TabB base mg cl Pl) (hmT : (Pl, ("_law_are_refused_right.<locals>.<lambda>" : Str)) ∈ TB) (hu : ∀ p ∈ TB, p.1 = Pl → p.2 = ("_law_are_refused_right.<locals>.<lambda>" : Str))  (A : Around) (outer : List Env) (s : Shared) (H : Hp) (E : XK) {f : Addr} (hr : Room 7 (A.deeper (envOfC "_law_are_refused_right" (defScope s__law_are_refused_right) s.heap.objs.size f (.ref cl)))) :
    PSs (cxOf (L2.CX P w) P w K mg base ["hand", "no", "bad", "base", "words", "due"] "_law_are_refused_right" (defScope s__law_are_refused_right) f (.ref cl) A outer s H E) (defBody s__law_are_refused_right) (upS K TB (fun cls d _ H => E cls d H) (rd__law_are_refused_right cBadBase cBadDigits cBadNumber cBadSteps cBadWay cOtherBase cBadReader cTooMany)) := by
  have nd := sc__law_are_refused_right.nd
  have tk : Takes (cxOf (L2.CX P w) P w K mg base ["hand", "no", "bad", "base", "words", "due"] "_law_are_refused_right" (defScope s__law_are_refused_right) f (.ref cl) A outer s H E) (fun cls d _ H => E cls d H) := takes_of rfl rfl rfl rfl
  exact (ds_cons (ds_set (i := 1) nd rfl (.inr rfl) (dx_defO 0 D__law_any tk hr (by decide) l__law_any (da_cons (dx_f (df_lst (da_cons (dx_defO 0 D__law_no_number tk hr (by decide) l__law_no_number da_nil) (da_cons (dx_add (dx_pow dx_int dx_int) dx_int) da_nil)))) da_nil)))
  (ds_cons (ds_set (i := 2) nd rfl (.inr rfl) (dx_defO 0 D__law_any tk hr (by decide) l__law_any (da_cons (dx_f (df_lst (da_cons dx_int (da_cons dx_int (da_cons dx_int (da_cons dx_int (da_cons dx_int (da_cons (dx_pow dx_int dx_int) (da_cons (dx_add (dx_pow dx_int dx_int) dx_int) (da_cons dx_non (da_cons dx_bl (da_cons dx_str (da_cons (dx_neg dx_int) da_nil))))))))))))) da_nil)))
  (ds_cons (ds_set (i := 3) nd rfl (.inr rfl) (dx_defO 0 D__law_any tk hr (by decide) l__law_any (da_cons (dx_f (df_lst (da_cons dx_int (da_cons dx_int (da_cons (dx_add (dx_pow dx_int dx_int) dx_int) (da_cons dx_non (da_cons dx_bl (da_cons dx_str (da_cons (dx_neg dx_int) da_nil))))))))) da_nil)))
  (ds_cons (ds_setF (i := 4) nd rfl (.inl rfl) (df_lst (da_cons (dx_lamO (k := 5) L__law_word TBc rfl hr (fun _ _ _ _ _ _ _ hr => (dx_def D_often_in takes_lam hr (by decide) l_often_in (da_cons (dx_defO 0 D__law_any takes_lam hr (by decide) l__law_any (da_cons (dx_f (df_lst (da_cons (dx_var 1) (da_cons dx_int da_nil)))) da_nil)) (da_cons dx_int da_nil)))) hmT hu (L := LamX.lamS_by (sc := defScope s__law_are_refused_right) (by decide +kernel))) da_nil)))
  (ds_cons (ds_app 4 (dx_lam (k := 5) L__law_word TBc rfl hr (fun _ _ _ _ _ _ _ hr => (dx_def D_often_in takes_lam hr (by decide) l_often_in (da_cons dx_int (da_cons (dx_var 2) da_nil)))) hmT hu (L := LamX.lamS_by (sc := defScope s__law_are_refused_right) (by decide +kernel))))
  (ds_cons (ds_app 4 (dx_lam (k := 5) L__law_word TBc rfl hr (fun _ _ _ _ _ _ _ hr => (dx_def D_often_in_product takes_lam hr (by decide) l_often_in_product (da_cons (dx_var 1) (da_cons dx_int da_nil)))) hmT hu (L := LamX.lamS_by (sc := defScope s__law_are_refused_right) (by decide +kernel))))
  (ds_cons (ds_app 4 (dx_lam (k := 5) L__law_word TBc rfl hr (fun _ _ _ _ _ _ _ hr => (dx_def D_often_in_product takes_lam hr (by decide) l_often_in_product (da_cons dx_int (da_cons (dx_var 2) da_nil)))) hmT hu (L := LamX.lamS_by (sc := defScope s__law_are_refused_right) (by decide +kernel))))
  (ds_cons (ds_app 4 (dx_lam (k := 5) L__law_word TBc rfl hr (fun _ _ _ _ _ _ _ hr => (dx_def D_often_by_figures takes_lam hr (by decide) l_often_by_figures (da_cons (dx_var 1) (da_cons dx_int da_nil)))) hmT hu (L := LamX.lamS_by (sc := defScope s__law_are_refused_right) (by decide +kernel))))
  (ds_cons (ds_app 4 (dx_lam (k := 5) L__law_word TBc rfl hr (fun _ _ _ _ _ _ _ hr => (dx_def D_often_by_figures takes_lam hr (by decide) l_often_by_figures (da_cons dx_int (da_cons (dx_var 2) da_nil)))) hmT hu (L := LamX.lamS_by (sc := defScope s__law_are_refused_right) (by decide +kernel))))
  (ds_cons (ds_app 4 (dx_lam (k := 5) L__law_word TBc rfl hr (fun _ _ _ _ _ _ _ hr => (dx_def D_often_in_choices takes_lam hr (by decide) l_often_in_choices (da_cons (dx_var 1) (da_cons dx_int (da_cons dx_int da_nil))))) hmT hu (L := LamX.lamS_by (sc := defScope s__law_are_refused_right) (by decide +kernel))))
  (ds_cons (ds_app 4 (dx_lam (k := 5) L__law_word TBc rfl hr (fun _ _ _ _ _ _ _ hr => (dx_def D_often_in_choices takes_lam hr (by decide) l_often_in_choices (da_cons dx_int (da_cons (dx_var 1) (da_cons dx_int da_nil))))) hmT hu (L := LamX.lamS_by (sc := defScope s__law_are_refused_right) (by decide +kernel))))
  (ds_cons (ds_app 4 (dx_lam (k := 5) L__law_word TBc rfl hr (fun _ _ _ _ _ _ _ hr => (dx_def D_often_in_choices takes_lam hr (by decide) l_often_in_choices (da_cons dx_int (da_cons dx_int (da_cons (dx_var 2) da_nil))))) hmT hu (L := LamX.lamS_by (sc := defScope s__law_are_refused_right) (by decide +kernel))))
  (ds_cons (ds_app 4 (dx_lam (k := 5) L__law_word TBc rfl hr (fun _ _ _ _ _ _ _ hr => (dx_def D_rest_of_product takes_lam hr (by decide) l_rest_of_product (da_cons (dx_var 1) (da_cons dx_int da_nil)))) hmT hu (L := LamX.lamS_by (sc := defScope s__law_are_refused_right) (by decide +kernel))))
  (ds_cons (ds_app 4 (dx_lam (k := 5) L__law_word TBc rfl hr (fun _ _ _ _ _ _ _ hr => (dx_def D_rest_of_product takes_lam hr (by decide) l_rest_of_product (da_cons dx_int (da_cons (dx_var 2) da_nil)))) hmT hu (L := LamX.lamS_by (sc := defScope s__law_are_refused_right) (by decide +kernel))))
  (ds_cons (ds_app 4 (dx_lam (k := 5) L__law_word TBc rfl hr (fun _ _ _ _ _ _ _ hr => (dx_def D_last_figure_of_product takes_lam hr (by decide) l_last_figure_of_product (da_cons (dx_var 1) da_nil))) hmT hu (L := LamX.lamS_by (sc := defScope s__law_are_refused_right) (by decide +kernel))))
  (ds_cons (ds_app 4 (dx_lam (k := 5) L__law_word TBc rfl hr (fun _ _ _ _ _ _ _ hr => (dx_def D_zeros_of_product takes_lam hr (by decide) l_zeros_of_product (da_cons (dx_var 1) (da_cons dx_int da_nil)))) hmT hu (L := LamX.lamS_by (sc := defScope s__law_are_refused_right) (by decide +kernel))))
  (ds_cons (ds_app 4 (dx_lam (k := 5) L__law_word TBc rfl hr (fun _ _ _ _ _ _ _ hr => (dx_def D_zeros_of_product takes_lam hr (by decide) l_zeros_of_product (da_cons dx_int (da_cons (dx_var 3) da_nil)))) hmT hu (L := LamX.lamS_by (sc := defScope s__law_are_refused_right) (by decide +kernel))))
  (ds_cons (ds_app 4 (dx_lam (k := 5) L__law_word TBc rfl hr (fun _ _ _ _ _ _ _ hr => (dx_def D_carry_number takes_lam hr (by decide) l_carry_number (da_cons (dx_var 1) (da_cons dx_int (da_cons dx_int da_nil))))) hmT hu (L := LamX.lamS_by (sc := defScope s__law_are_refused_right) (by decide +kernel))))
  (ds_cons (ds_app 4 (dx_lam (k := 5) L__law_word TBc rfl hr (fun _ _ _ _ _ _ _ hr => (dx_def D_carry_number takes_lam hr (by decide) l_carry_number (da_cons dx_int (da_cons (dx_var 1) (da_cons dx_int da_nil))))) hmT hu (L := LamX.lamS_by (sc := defScope s__law_are_refused_right) (by decide +kernel))))
  (ds_cons (ds_app 4 (dx_lam (k := 5) L__law_word TBc rfl hr (fun _ _ _ _ _ _ _ hr => (dx_def D_carry_number takes_lam hr (by decide) l_carry_number (da_cons dx_int (da_cons dx_int (da_cons (dx_var 3) da_nil))))) hmT hu (L := LamX.lamS_by (sc := defScope s__law_are_refused_right) (by decide +kernel))))
  (ds_cons (ds_set (i := 5) nd rfl (.inl rfl) (dx_f (df_cat (dx_f (df_rep (dx_f (df_lst (da_cons dx_str (da_cons dx_str da_nil)))) dx_int)) (dx_f (df_lst (da_cons dx_str (da_cons dx_str (da_cons dx_str (da_cons dx_str (da_cons dx_str (da_cons dx_str (da_cons dx_str (da_cons dx_str da_nil)))))))))))))
  (ds_one (ds_ret (dx_peek (dx_eq hr.units (dx_var 4) (dx_f (df_cat (dx_var 5) (dx_f (df_lst (da_cons dx_str (da_cons dx_str (da_cons dx_str da_nil))))))))))))))))))))))))))))))))
/-! ### law -/
abbrev s_law : Stmt := topS 51
theorem sc_law : FnScope ["script", "hand", "turn", "told"] ["script"] (defScope s_law) := ⟨rfl, rfl, rfl, by decide +kernel, rfl, by decide +kernel, by decide +kernel⟩
def rd_law (cBadBase : Addr) (cBadNumber : Addr) : DS := (sSeq (sSetF 1 (fCall S__law_hand (aCons (dVar 0) aNil)))
  (sSeq (sFor (iR1 (aCons (dC (.int 4)) aNil)) (gN 2) (sIf (dOrT (dNotT (dB (dCallO 1 S__law_is_right aNil))) (dOrT (dNotT (dB (dCallO 1 S__law_are_rests_right aNil))) (dNotT (dB (dCallO 1 S__law_are_refused_right aNil))))) (sRet (dC (.bl false))) sSkip))
  (sSeq (sSet 3 (dF (fLst (aCons (dCall (S_zeros_of_product cBadBase cBadNumber) (aCons (dC (.int 100)) (aCons (dC (.int 10)) aNil))) (aCons (dCall (S_often_in_choices cBadBase cBadNumber) (aCons (dC (.int 4)) (aCons (dC (.int 2)) (aCons (dC (.int 2)) aNil)))) (aCons (dCall (S_last_figure_of_product cBadBase cBadNumber) (aCons (dC (.int 10)) aNil)) aNil))))))
  (sRet (dCall (S__law_is 4) (aCons (dF (fCatL (dVar 3) (dF (fLst (aCons (dCall (S_often_in_choices cBadBase cBadNumber) (aCons (dC (.int 2)) (aCons (dC (.int 3)) (aCons (dC (.int 5)) aNil)))) aNil))))) (aCons (dF (fLst (aCons (dC (.int 24)) (aCons (dC (.int 1)) (aCons (dC (.int 8)) (aCons (dC .non) aNil)))))) aNil)))))))
theorem tm_law {P : Program} {w : World} {K : PySem.W.Frag} {TB : List (Addr × Str)} {mg : Str → Option Value} {base : Heap} {cBadBase : Addr} {cBadDigits : Addr} {cBadNumber : Addr} {cBadSteps : Addr} {cBadWay : Addr} {cOtherBase : Addr} {cBadReader : Addr} {cTooMany : Addr} (T : Txt K mg cBadBase cBadDigits cBadNumber cBadSteps cBadWay cOtherBase cBadReader cTooMany) (D__law_are_refused_right : Dfn P w K mg base "_law_are_refused_right" 8 (spB K TB 1 S__law_are_refused_right)) (D__law_are_rests_right : Dfn P w K mg base "_law_are_rests_right" 6 (spB K TB 1 S__law_are_rests_right)) (D__law_hand : Dfn P w K mg base "_law_hand" 1 (spA K TB 1 S__law_hand)) (D__law_is : Dfn P w K mg base "_law_is" 5 (spA K TB 2 (S__law_is 4))) (D__law_is_right : Dfn P w K mg base "_law_is_right" 6 (spB K TB 1 S__law_is_right)) (D_last_figure_of_product : Dfn P w K mg base "last_figure_of_product" 5 (spA K TB 1 (S_last_figure_of_product cBadBase cBadNumber))) (D_often_in_choices : Dfn P w K mg base "often_in_choices" 4 (spA K TB 3 (S_often_in_choices cBadBase cBadNumber))) (D_zeros_of_product : Dfn P w K mg base "zeros_of_product" 5 (spA K TB 2 (S_zeros_of_product cBadBase cBadNumber))) (cdv : Value) (A : Around) (outer : List Env) (s : Shared) (H : Hp) (E : XK) {f : Addr} (hr : Room 8 (A.deeper (envOfC "law" (defScope s_law) s.heap.objs.size f cdv))) :
    PSs (cxOf (L2.CX P w) P w K mg base ["script", "hand", "turn", "told"] "law" (defScope s_law) f cdv A outer s H E) (defBody s_law) (upS K TB (fun cls d _ H => E cls d H) (rd_law cBadBase cBadNumber)) := by
  have nd := sc_law.nd
  have tk : Takes (cxOf (L2.CX P w) P w K mg base ["script", "hand", "turn", "told"] "law" (defScope s_law) f cdv A outer s H E) (fun cls d _ H => E cls d H) := takes_of rfl rfl rfl rfl
  have hp : PassesOwn (model P w) (A.deeper (envOfC "law" (defScope s_law) s.heap.objs.size f cdv)) (envOfC "law" (defScope s_law) s.heap.objs.size f cdv) (cxOf (L2.CX P w) P w K mg base ["script", "hand", "turn", "told"] "law" (defScope s_law) f cdv A outer s H E).xe := passes_of rfl
  exact (ds_cons (ds_setF (i := 1) nd rfl (.inl rfl) (df_def D__law_hand tk hr (by decide) l__law_hand (da_cons (dx_var 0) da_nil)))
  (ds_cons (ds_for hp rfl (di_r1 T.z_range (da_cons dx_int da_nil)) (dg_n (i := 2) (vs := [2]) (by decide) nd rfl (.inl rfl)) (ds_one (ds_if (L2.PW.pt (dw_or (dt_not (dt_val (dx_defO 1 D__law_is_right tk hr (by decide) l__law_is_right da_nil))) (dw_or (dt_not (dt_val (dx_defO 1 D__law_are_rests_right tk hr (by decide) l__law_are_rests_right da_nil))) (dw_or1 (dt_not (dt_val (dx_defO 1 D__law_are_refused_right tk hr (by decide) l__law_are_refused_right da_nil))))))) (ds_one (ds_ret dx_bl)) ds_nil)))
  (ds_cons (ds_set (i := 3) nd rfl (.inl rfl) (dx_f (df_lst (da_cons (dx_def D_zeros_of_product tk hr (by decide) l_zeros_of_product (da_cons dx_int (da_cons dx_int da_nil))) (da_cons (dx_def D_often_in_choices tk hr (by decide) l_often_in_choices (da_cons dx_int (da_cons dx_int (da_cons dx_int da_nil)))) (da_cons (dx_def D_last_figure_of_product tk hr (by decide) l_last_figure_of_product (da_cons dx_int da_nil)) da_nil))))))
  (ds_one (ds_ret (dx_def D__law_is tk hr (by decide) l__law_is (da_cons (dx_f (df_cat (dx_var 3) (dx_f (df_lst (da_cons (dx_def D_often_in_choices tk hr (by decide) l_often_in_choices (da_cons dx_int (da_cons dx_int (da_cons dx_int da_nil)))) da_nil))))) (da_cons (dx_f (df_lst (da_cons dx_int (da_cons dx_int (da_cons dx_int (da_cons dx_non da_nil)))))) da_nil))))))))
end K36


set_option Elab.async false
set_option linter.all false
set_option maxRecDepth 100000
set_option maxHeartbeats 4000000
local macro_rules | `(tactic| walk_at "dl") => `(tactic| try simp only [DL.sSkip, DL.sSeq, DL.sCut, DL.sSet, DL.sSetF, DL.sPar, DL.sPar3, DL.sAsg, DL.sDrop, DL.sRet, DL.sRetF, DL.sRetO, DL.sRetN, DL.sBreak, DL.sCont, DL.sIf, DL.sRaise, DL.sAug, DL.dC, DL.dVar, DL.dBin, DL.aNil, DL.aCons, DL.dTup, DL.fLst, DL.dF, DL.dCB, DL.fCB, DL.dCall, DL.fCall, DL.dCallO, DL.fCallO, DL.rvD, DL.rvF, DL.dChain, DL.dB, DL.dTru, DL.dAndT, DL.dOrT, DL.dNotT, DL.dAnd, DL.dOr, DL.dNot, DL.dIfE, DL.dNeg, DL.dIxO, DL.sApp, DL.sSetIx, DL.dSl, DL.fSlL, DL.oNone, DL.oSome, DL.fCatL, DL.fRepL, DL.endA, DL.endB, DL.argsD, DL.Rv.out, DL.dPeek, DL.dPeekT, DL.frz, DL.gN, DL.gT, DL.gLs, DL.iSeq, DL.iR1, DL.iR2, DL.wipeD, DL.backD, DL.keepD, DL.fLc, DL.sFor, DL.dDic0, DL.dIsT, DL.fIfE, DL.fRevL, DL.iR3, DL.dPop, DL.dPopAt, DL.sRev, DL.sExt, DL.sAugIx, DL.sSetH, DL.sSetH1, DL.dHGet, DL.dHIn, DL.sHPut, DL.dHGetD, DL.dHLen, DL.fHKeys, DL.sFz, DL.sFzH, DL.fRng1, DL.fRng2, DL.dTupRev, DL.dRevSl, DL.fRevSl, DL.iRevD, DL.iEnumD, DL.iEnumA, DL.iZipD, DL.sMPar, DL.r_shl, DL.r_shr, DL.setMx, DL.mNil, DL.mD, DL.mN, DL.nF, DL.nH0, DL.nH1, DL.Ct.sl, DL.sParDF, DL.sParFD, DL.sParFF, DL.sSetDc, DL.isB_int_d, DL.isB_bool_d, DL.isB_tuple_d, DL.isB_list_d, DL.isB_str_d, DL.isB_dict_d, DL.noq_d, DL.r_any_l, DL.r_any_t2, DL.r_any_s, DL.r_some_l, DL.r_some_t2, DL.r_some_s, DL.r_draw, DL.isB_int_q, DL.isB_bool_q, DL.isB_tuple_q, DL.isB_list_q, DL.isB_str_q, DL.isB_dict_q, DL.r_is_dn, DL.r_isnt_dn, ite_true, ite_false, if_true, if_false, List.any_cons, List.any_nil, Bool.or_false, Bool.false_or, Bool.true_or, Bool.or_true,
 
  DL.r_add_i, DL.r_add_s, DL.r_add_t, DL.r_sub, DL.r_mul, DL.r_mod, DL.r_div, DL.r_pow, DL.r_lt, DL.r_le, DL.r_gt, DL.r_ge, DL.r_augp, DL.r_augm, DL.r_eq_nn, DL.r_ne_nn, DL.r_eq_nb, DL.r_ne_nb, DL.r_eq_ni, DL.r_ne_ni, DL.r_eq_ns, DL.r_ne_ns, DL.r_eq_bn, DL.r_ne_bn, DL.r_eq_bb, DL.r_ne_bb, DL.r_eq_in, DL.r_ne_in, DL.r_eq_ii, DL.r_ne_ii, DL.r_eq_is, DL.r_ne_is, DL.r_eq_sn, DL.r_ne_sn, DL.r_eq_si, DL.r_ne_si, DL.r_eq_ss, DL.r_ne_ss, DL.r_eq_ll, DL.r_ne_ll, DL.r_eq_lt, DL.r_ne_lt, DL.r_eq_ln, DL.r_ne_ln, DL.r_eq_li, DL.r_ne_li, DL.r_eq_ls, DL.r_ne_ls, DL.r_eq_lb, DL.r_ne_lb, DL.r_eq_nl2, DL.r_ne_nl2, DL.r_eq_il2, DL.r_ne_il2, DL.r_eq_sl2, DL.r_ne_sl2, DL.r_eq_bl2, DL.r_ne_bl2, DL.r_eq_tl, DL.r_ne_tl, DL.r_eq_tt, DL.r_ne_tt, DL.r_eq_tn, DL.r_ne_tn, DL.r_eq_ti, DL.r_ne_ti, DL.r_eq_ts, DL.r_ne_ts, DL.r_eq_tb, DL.r_ne_tb, DL.r_eq_nt2, DL.r_ne_nt2, DL.r_eq_it2, DL.r_ne_it2, DL.r_eq_st2, DL.r_ne_st2, DL.r_eq_bt2, DL.r_ne_bt2, DL.r_is_bb, DL.r_isnt_bb, DL.r_is_nn, DL.r_isnt_nn, DL.r_is_in, DL.r_isnt_in, DL.r_is_sn, DL.r_isnt_sn, DL.r_is_ln, DL.r_isnt_ln, DL.r_is_tn, DL.r_isnt_tn, DL.r_is_bn, DL.r_isnt_bn, DL.r_ix_l, DL.r_ix_t, DL.at0, DL.at1, DL.at2, DL.at3, DL.at4, DL.ixn10, DL.ixn20, DL.ixn21, DL.ixn30, DL.ixn31, DL.ixn32, DL.ixn40, DL.ixn41, DL.ixn42, DL.ixn43, DL.ixn50, DL.ixn51, DL.ixn52, DL.ixn53, DL.ixn54, DL.r_sl_t, DL.r_sl_l, DL.r_sl_q, DL.r_len_l, DL.r_len_t, DL.r_len_s, DL.r_abs, DL.r_int_i, DL.r_int_b, DL.r_max2, DL.r_min2, DL.r_sum, DL.r_any, DL.r_all, DL.r_tuple_l, DL.r_tuple_t, DL.r_list_l, DL.r_list_t, DL.r_isi, DL.noq_n, DL.noq_b, DL.noq_i, DL.noq_s, DL.noq_l, DL.noq_t, DL.noq_q, DL.tru_n, DL.tru_b, DL.tru_i, DL.tru_l, DL.tru_t, DL.isB_int_n, DL.isB_int_b, DL.isB_int_i, DL.isB_int_s, DL.isB_int_l, DL.isB_int_t, DL.isB_bool_n, DL.isB_bool_b, DL.isB_bool_i, DL.isB_bool_s, DL.isB_bool_l, DL.isB_bool_t, DL.isB_tuple_n, DL.isB_tuple_b, DL.isB_tuple_i, DL.isB_tuple_s, DL.isB_tuple_l, DL.isB_tuple_t, DL.isB_list_n, DL.isB_list_b, DL.isB_list_i, DL.isB_list_s, DL.isB_list_l, DL.isB_list_t, DL.isB_str_n, DL.isB_str_b, DL.isB_str_i, DL.isB_str_s, DL.isB_str_l, DL.isB_str_t, DL.isB_dict_n, DL.isB_dict_b, DL.isB_dict_i, DL.isB_dict_s, DL.isB_dict_l, DL.isB_dict_t,
  List.map_cons, List.map_nil, List.length_cons, List.length_nil, List.cons_append, List.nil_append, List.replicate_succ, List.replicate_zero, Nat.sub_self, Nat.add_one_sub_one, Nat.zero_add, Nat.reduceAdd, Nat.reduceSub, Int.cast_ofNat_Int, List.getElem?_cons_zero, List.getElem?_cons_succ, List.set_cons_zero, List.set_cons_succ, true_and, and_true, decide_eq_true_eq, decide_eq_false_iff_not, forall_const, false_implies, true_implies, reduceCtorEq, implies_true, Bool.true_eq_false, Bool.false_eq_true, Bool.not_true, Bool.not_false, Bool.not_eq_true', Bool.not_eq_false', bne_self_eq_false, beq_self_eq_true, Option.some.injEq, exists_eq_left', exists_eq_left, ne_eq, not_false_eq_true, not_true_eq_false])
namespace K36
open PySem PySem.Spec PyProof.Rows L2 DL
theorem hd__law_hand (ds : List D) (Qd : Rf → Prop) (Ed : Addr → Prop) (hn : ds.length = 1) (h : S__law_hand ds Qd Ed) : rd__law_hand (endA Qd Ed) (argsD 3 ds) := by
  unfold S__law_hand at h
  split at h
  · obtain ⟨ns, rfl, hl, q⟩ := h
    unfold rd__law_hand
    walk_at "dl"
    rw [show cut (ns.map D.int) none (some 63) = ns.map D.int from cut_all (n := 63) (by rw [List.length_map]; exact hl)]
    refine lc_ys2 (ns.map fun n => D.int ((if n < 0 then -n else n))) rfl (by simp) (by rw [List.length_map, sizeLine_eq]; omega) (fun i x y P hx hy hP => ?_) ?_
    · obtain ⟨n, h1, rfl⟩ := ints_get hx
      rw [List.getElem?_map, h1] at hy
      obtain rfl := Option.some.inj hy
      walk_at "dl"
      first | exact hP _ rfl | exact ⟨⟨by decide, by decide, by decide⟩, by decide, hP _ rfl⟩
    · walk_at "dl"
      refine ⟨mulL (by decide) (by decide), by rw [sizeLine_eq]; omega, fun p hp => q _ ?_⟩
      have nw : ∀ m : Int, 0 ≤ m → isHand [.lst ((ns.map fun n => (if n < 0 then -n else n)).map D.int), .int 0, .int 0, .int m, .int 0] := fun m hm => isHand_new hm (fun c hc => by
        obtain ⟨n, _, rfl⟩ := List.mem_map.mp hc
        first | exact fmod_lo (by decide) | (split <;> omega))
      rw [List.map_map] at nw
      refine nw _ ?_
      rw [List.length_map]
      omega
  · exact h.elim

theorem hd__law_draw (p : Addr) (xs ds : List D) (Qd : Rf → List D → Prop) (Ed : Addr → List D → Prop) (hn : ds.length + 1 = 2) (h : S__law_draw xs ds Qd Ed) : rd__law_draw (endB p Qd Ed) (.o p xs :: argsD 4 ds) := by
  unfold S__law_draw at h
  split at h
  · rename_i many
    obtain ⟨⟨cells, pos, rest, mix, cnt, rfl, h1, h2, h3, h4⟩, m1, m2, q⟩ := h
    unfold rd__law_draw
    unfold sCut
    refine ⟨fun δ => ∃ xs a b c, δ = [.o p xs, .d (.int many), a, b, c] ∧ isHand xs, ?_, ?_⟩
    · walk_at "dl"
      have keep : ∃ ys a b c, [Sl.o p [D.lst (cells.map D.int), .int pos, .int rest, .int mix, .int cnt], .d (.int many), .u, .u, .u] = [.o p ys, .d (.int many), a, b, c] ∧ isHand ys := ⟨_, _, _, _, rfl, cells, pos, rest, mix, cnt, rfl, h1, h2, h3, h4⟩
      refine ⟨fun hr => ⟨fun hp => ?_, fun _ => keep⟩, fun _ => keep⟩
      have hp : pos < cells.length := by rw [List.length_map] at hp; omega
      refine ⟨.int cells[pos], atI_nat (by rw [List.getElem?_map, List.getElem?_eq_getElem hp]; rfl), ?_⟩
      have hc : 0 ≤ cells[pos] := h4 _ (List.getElem_mem hp)
      walk_at "dl"
      have fin : ∀ r m, 0 ≤ r → 0 ≤ m → isHand [D.lst (cells.map D.int), .int ((pos : Int) + 1), .int r, .int m, .int cnt] := fun r m a b => ⟨cells, pos + 1, r, m, cnt, by rw [Int.natCast_add]; rfl, a, b, h3, h4⟩
      first
        | exact ⟨mulR (by decide) (by decide), mulR (by decide) (by decide), by decide, ⟨by decide, by decide, by decide⟩, fun _ => ⟨_, _, _, _, rfl, fin _ _ hc (fmod_lo (by decide))⟩, fun _ => ⟨_, _, _, _, rfl, fin _ _ h1 (fmod_lo (by decide))⟩⟩
        | exact ⟨mulR (by decide) (by decide), by decide, ⟨by decide, by decide, by decide⟩, fun _ => ⟨_, _, _, _, rfl, fin _ _ hc (fmod_lo (by decide))⟩, fun _ => ⟨_, _, _, _, rfl, fin _ _ h1 (fmod_lo (by decide))⟩⟩
    · rintro δ ⟨xs, a, b, c, rfl, cells, pos, rest, mix, cnt, rfl, h1, h2, h3, h4⟩
      walk_at "dl"
      refine ⟨fun hr => ⟨by omega, divOk_of m1 m2, _, rfl, q _ _ (fmod_lo m1) (fmod_hi m1) ⟨cells, pos, _, mix, cnt, rfl, fdiv_lo h1 m1, h2, h3, h4⟩⟩, fun _ => ?_⟩
      refine ⟨mulL (by decide) (by decide), mulR (by decide) (by decide), by decide, divOk_small (by decide) (by decide), mulL ?_ ?_, by decide, divOk_small (by decide) (by decide), mulL ?_ ?_, by decide, divOk_small (by decide) (by decide), by omega, _, rfl, q _ _ (fmod_lo m1) (fmod_hi m1) ⟨cells, pos, rest, mix, cnt + 1, rfl, h1, h2, by omega, h4⟩⟩
      all_goals first
        | exact Int.lt_of_lt_of_le (by decide) (fmod_lo (by decide))
        | exact Int.lt_trans (fmod_hi (by decide)) (by decide)
  · exact h.elim

theorem hd__law_any (p : Addr) (xs ds : List D) (Qd : Rf → List D → Prop) (Ed : Addr → List D → Prop) (hn : ds.length + 1 = 2) (h : S__law_any xs ds Qd Ed) : rd__law_any (endB p Qd Ed) (.o p xs :: argsD 1 ds) := by
  unfold  S__law_any at h
  have big : ∀ k : Nat, k ≤ 100000 → ((k : Int)).natAbs < 2 ^ 9000 := fun k hk => Nat.lt_of_lt_of_le (show ((k : Int)).natAbs < 2 ^ 20 by omega) (Nat.pow_le_pow_right (by decide) (by decide))
  split at h
  · rename_i ts
    obtain ⟨hh, h1, h2, q⟩ := h
    unfold rd__law_any
    walk_at "dl"
    refine ⟨hh, by omega, big _ h2, fun r ys r1 r2 hy => ?_⟩
    walk_at "dl"
    obtain ⟨n, rfl⟩ := Int.eq_ofNat_of_zero_le r1
    have hn : n < ts.length := by omega
    exact ⟨ts[n], atI_nat (List.getElem?_eq_getElem hn), _, rfl, q _ (List.getElem_mem hn) _ hy⟩
  · rename_i ts
    obtain ⟨hh, h1, h2, q⟩ := h
    unfold rd__law_any
    walk_at "dl"
    refine ⟨hh, by omega, big _ h2, fun r ys r1 r2 hy => ?_⟩
    walk_at "dl"
    obtain ⟨n, rfl⟩ := Int.eq_ofNat_of_zero_le r1
    have hn : n < ts.length := by omega
    exact ⟨ts[n], atI_nat (List.getElem?_eq_getElem hn), _, rfl, q _ (List.getElem_mem hn) _ hy⟩
  · rename_i z
    obtain ⟨hh, h1, h2, q⟩ := h
    unfold rd__law_any
    walk_at "dl"
    refine ⟨by rw [sizeLine_eq]; omega, ?_⟩
    refine ⟨hh, by omega, big _ h2, fun r ys r1 r2 hy => ?_⟩
    walk_at "dl"
    obtain ⟨n, rfl⟩ := Int.eq_ofNat_of_zero_le r1
    have hn : n < z.cps.toList.length := by
      have : z.cps.toList.length = z.length := Array.length_toList
      omega
    exact ⟨z.cps.toList[n], by rw [sizeLine_eq]; omega, atI_nat (List.getElem?_eq_getElem hn), _, rfl, q _ (List.getElem_mem hn) _ hy⟩
  · exact h.elim

theorem hn__law_word (f : Addr) (Qd : Rf → Prop) (h : Qd (Rf.d fr__law_word)) : rr__law_word (endA Qd fun _ => False) [.d (.opq (.ref f)), .d (.str "told"), .u, .u, .u] := by
  unfold rr__law_word
  walk_at "dl"
  exact h

theorem hd__law_word {K : PySem.W.Frag} {cBadBase cBadDigits cBadNumber cBadSteps cBadWay cOtherBase cBadReader cTooMany cTermError : Addr} (I0 : ErrI K cBadBase cTermError) (I1 : ErrI K cBadDigits cTermError) (I2 : ErrI K cBadNumber cTermError) (I3 : ErrI K cBadSteps cTermError) (I4 : ErrI K cBadWay cTermError) (I5 : ErrI K cOtherBase cTermError) (I6 : ErrI K cBadReader cTermError) (I7 : ErrI K cTooMany cTermError) (n00 : PySem.W.kitOne K (.ref cBadBase) (.ref cBadBase) = some true) (n01 : PySem.W.kitOne K (.ref cBadBase) (.ref cBadDigits) = some false) (n02 : PySem.W.kitOne K (.ref cBadBase) (.ref cBadNumber) = some false) (n03 : PySem.W.kitOne K (.ref cBadBase) (.ref cBadSteps) = some false) (n04 : PySem.W.kitOne K (.ref cBadBase) (.ref cBadWay) = some false) (n05 : PySem.W.kitOne K (.ref cBadBase) (.ref cOtherBase) = some false) (n06 : PySem.W.kitOne K (.ref cBadBase) (.ref cBadReader) = some false) (n07 : PySem.W.kitOne K (.ref cBadBase) (.ref cTooMany) = some false) (n10 : PySem.W.kitOne K (.ref cBadDigits) (.ref cBadBase) = some false) (n11 : PySem.W.kitOne K (.ref cBadDigits) (.ref cBadDigits) = some true) (n12 : PySem.W.kitOne K (.ref cBadDigits) (.ref cBadNumber) = some false) (n13 : PySem.W.kitOne K (.ref cBadDigits) (.ref cBadSteps) = some false) (n14 : PySem.W.kitOne K (.ref cBadDigits) (.ref cBadWay) = some false) (n15 : PySem.W.kitOne K (.ref cBadDigits) (.ref cOtherBase) = some false) (n16 : PySem.W.kitOne K (.ref cBadDigits) (.ref cBadReader) = some false) (n17 : PySem.W.kitOne K (.ref cBadDigits) (.ref cTooMany) = some false) (n20 : PySem.W.kitOne K (.ref cBadNumber) (.ref cBadBase) = some false) (n21 : PySem.W.kitOne K (.ref cBadNumber) (.ref cBadDigits) = some false) (n22 : PySem.W.kitOne K (.ref cBadNumber) (.ref cBadNumber) = some true) (n23 : PySem.W.kitOne K (.ref cBadNumber) (.ref cBadSteps) = some false) (n24 : PySem.W.kitOne K (.ref cBadNumber) (.ref cBadWay) = some false) (n25 : PySem.W.kitOne K (.ref cBadNumber) (.ref cOtherBase) = some false) (n26 : PySem.W.kitOne K (.ref cBadNumber) (.ref cBadReader) = some false) (n27 : PySem.W.kitOne K (.ref cBadNumber) (.ref cTooMany) = some false) (n30 : PySem.W.kitOne K (.ref cBadSteps) (.ref cBadBase) = some false) (n31 : PySem.W.kitOne K (.ref cBadSteps) (.ref cBadDigits) = some false) (n32 : PySem.W.kitOne K (.ref cBadSteps) (.ref cBadNumber) = some false) (n33 : PySem.W.kitOne K (.ref cBadSteps) (.ref cBadSteps) = some true) (n34 : PySem.W.kitOne K (.ref cBadSteps) (.ref cBadWay) = some false) (n35 : PySem.W.kitOne K (.ref cBadSteps) (.ref cOtherBase) = some false) (n36 : PySem.W.kitOne K (.ref cBadSteps) (.ref cBadReader) = some false) (n37 : PySem.W.kitOne K (.ref cBadSteps) (.ref cTooMany) = some false) (n40 : PySem.W.kitOne K (.ref cBadWay) (.ref cBadBase) = some false) (n41 : PySem.W.kitOne K (.ref cBadWay) (.ref cBadDigits) = some false) (n42 : PySem.W.kitOne K (.ref cBadWay) (.ref cBadNumber) = some false) (n43 : PySem.W.kitOne K (.ref cBadWay) (.ref cBadSteps) = some false) (n44 : PySem.W.kitOne K (.ref cBadWay) (.ref cBadWay) = some true) (n45 : PySem.W.kitOne K (.ref cBadWay) (.ref cOtherBase) = some false) (n46 : PySem.W.kitOne K (.ref cBadWay) (.ref cBadReader) = some false) (n47 : PySem.W.kitOne K (.ref cBadWay) (.ref cTooMany) = some false) (n50 : PySem.W.kitOne K (.ref cOtherBase) (.ref cBadBase) = some false) (n51 : PySem.W.kitOne K (.ref cOtherBase) (.ref cBadDigits) = some false) (n52 : PySem.W.kitOne K (.ref cOtherBase) (.ref cBadNumber) = some false) (n53 : PySem.W.kitOne K (.ref cOtherBase) (.ref cBadSteps) = some false) (n54 : PySem.W.kitOne K (.ref cOtherBase) (.ref cBadWay) = some false) (n55 : PySem.W.kitOne K (.ref cOtherBase) (.ref cOtherBase) = some true) (n56 : PySem.W.kitOne K (.ref cOtherBase) (.ref cBadReader) = some false) (n57 : PySem.W.kitOne K (.ref cOtherBase) (.ref cTooMany) = some false) (n60 : PySem.W.kitOne K (.ref cBadReader) (.ref cBadBase) = some false) (n61 : PySem.W.kitOne K (.ref cBadReader) (.ref cBadDigits) = some false) (n62 : PySem.W.kitOne K (.ref cBadReader) (.ref cBadNumber) = some false) (n63 : PySem.W.kitOne K (.ref cBadReader) (.ref cBadSteps) = some false) (n64 : PySem.W.kitOne K (.ref cBadReader) (.ref cBadWay) = some false) (n65 : PySem.W.kitOne K (.ref cBadReader) (.ref cOtherBase) = some false) (n66 : PySem.W.kitOne K (.ref cBadReader) (.ref cBadReader) = some true) (n67 : PySem.W.kitOne K (.ref cBadReader) (.ref cTooMany) = some false) (n70 : PySem.W.kitOne K (.ref cTooMany) (.ref cBadBase) = some false) (n71 : PySem.W.kitOne K (.ref cTooMany) (.ref cBadDigits) = some false) (n72 : PySem.W.kitOne K (.ref cTooMany) (.ref cBadNumber) = some false) (n73 : PySem.W.kitOne K (.ref cTooMany) (.ref cBadSteps) = some false) (n74 : PySem.W.kitOne K (.ref cTooMany) (.ref cBadWay) = some false) (n75 : PySem.W.kitOne K (.ref cTooMany) (.ref cOtherBase) = some false) (n76 : PySem.W.kitOne K (.ref cTooMany) (.ref cBadReader) = some false) (n77 : PySem.W.kitOne K (.ref cTooMany) (.ref cTooMany) = some true) :
    ∀ C y, fe__law_word cBadBase cBadDigits cBadNumber cBadSteps cBadWay cOtherBase cBadReader cTooMany C y → PySem.W.exmOne K (.ref C) (.ref cTermError) = some true ∧ ∀ a (Qd : Rf → Prop), Qd (Rf.d y) → rs__law_word K cBadBase cBadDigits cBadNumber cBadSteps cBadWay cOtherBase cBadReader cTooMany a (.ref C) none { nx := fun δ' => rr__law_word (endA Qd fun _ => False) (δ'.set 2 .u), rt := fun rv _ => Qd rv.out } ((List.replicate 5 .u).set 2 (.d (.opq (.ref a)))) := by
  intro C y h
  rcases h with ⟨rfl, rfl⟩ | ⟨rfl, rfl⟩
  · refine ⟨I0.xm, fun a Qd q => ?_⟩
    unfold rs__law_word
    walk_at "dl"
    refine isE_r I0.ec n00 (isE_r I0.ec n01 (isE_r I0.ec n02 ⟨by decide, isE_r I0.ec n06 (isE_r I0.ec n03 (isE_r I0.ec n04 ⟨by decide, by decide, isE_r I0.ec n05 (isE_r I0.ec n07 ⟨by decide, by decide, by decide, ?_⟩)⟩))⟩))
    unfold rr__law_word
    simp only [dMeth]
    walk_at "dl"
    refine ⟨rfl, rfl, ?_⟩
    simp only [cntD, eqF, List.countP_cons, List.countP_nil]
    walk_at "dl"
    refine ⟨fun _ => isE_t I0.ec I0.ve ?_, fun h => absurd (by decide) h⟩
    refine ⟨fun _ => ?_, fun h => absurd h (by decide)⟩
    refine ⟨rfl, ?_⟩
    walk_at "dl"
    refine ⟨rfl, rfl, _, rfl, ?_⟩
    walk_at "dl"
    repeat' first
      | exact q
      | exact ⟨_, rfl, q⟩
      | refine ⟨fun h => absurd h (by decide), fun _ => ?_⟩
      | (walk_at "dl"; done)
  · refine ⟨I2.xm, fun a Qd q => ?_⟩
    unfold rs__law_word
    walk_at "dl"
    refine isE_r I2.ec n20 (isE_r I2.ec n21 (isE_r I2.ec n22 ⟨by decide, isE_r I2.ec n26 (isE_r I2.ec n23 (isE_r I2.ec n24 ⟨by decide, by decide, isE_r I2.ec n25 (isE_r I2.ec n27 ⟨by decide, by decide, by decide, ?_⟩)⟩))⟩))
    unfold rr__law_word
    simp only [dMeth]
    walk_at "dl"
    refine ⟨rfl, rfl, ?_⟩
    simp only [cntD, eqF, List.countP_cons, List.countP_nil]
    walk_at "dl"
    refine ⟨fun _ => isE_t I2.ec I2.ve ?_, fun h => absurd (by decide) h⟩
    refine ⟨fun _ => ?_, fun h => absurd h (by decide)⟩
    refine ⟨rfl, ?_⟩
    walk_at "dl"
    refine ⟨rfl, rfl, _, rfl, ?_⟩
    walk_at "dl"
    repeat' first
      | exact q
      | exact ⟨_, rfl, q⟩
      | refine ⟨fun h => absurd h (by decide), fun _ => ?_⟩
      | (walk_at "dl"; done)

end K36


set_option Elab.async false
set_option linter.all false
set_option maxRecDepth 100000
set_option maxHeartbeats 4000000
local macro_rules | `(tactic| walk_at "dl") => `(tactic| try simp (maxSteps := 2000000) only [DL.sSkip, DL.sSeq, DL.sCut, DL.sSet, DL.sSetF, DL.sPar, DL.sPar3, DL.sAsg, DL.sDrop, DL.sRet, DL.sRetF, DL.sRetO, DL.sRetN, DL.sBreak, DL.sCont, DL.sIf, DL.sRaise, DL.sAug, DL.dC, DL.dVar, DL.dBin, DL.aNil, DL.aCons, DL.dTup, DL.fLst, DL.dF, DL.dCB, DL.fCB, DL.dCall, DL.fCall, DL.dCallO, DL.fCallO, DL.rvD, DL.rvF, DL.dChain, DL.dB, DL.dTru, DL.dAndT, DL.dOrT, DL.dNotT, DL.dAnd, DL.dOr, DL.dNot, DL.dIfE, DL.dNeg, DL.dIxO, DL.sApp, DL.sSetIx, DL.dSl, DL.fSlL, DL.oNone, DL.oSome, DL.fCatL, DL.fRepL, DL.endA, DL.endB, DL.argsD, DL.Rv.out, DL.dPeek, DL.dPeekT, DL.frz, DL.gN, DL.gT, DL.gLs, DL.iSeq, DL.iR1, DL.iR2, DL.wipeD, DL.backD, DL.keepD, DL.fLc, DL.sFor, DL.dDic0, DL.dIsT, DL.fIfE, DL.fRevL, DL.iR3, DL.dPop, DL.dPopAt, DL.sRev, DL.sExt, DL.sAugIx, DL.sSetH, DL.sSetH1, DL.dHGet, DL.dHIn, DL.sHPut, DL.dHGetD, DL.dHLen, DL.fHKeys, DL.sFz, DL.sFzH, DL.fLk, DL.iK, DL.dKIn, DL.dKGet, DL.sLk, DL.sHCopy, DL.sHMove, DL.dTupRg, DL.dPeekR, DL.fPeek, DL.sForEO, DL.sForLO, DL.fRng3, DL.dTupRg1, DL.sSetSl, DL.sAllF, DL.fRng1, DL.fRng2, DL.dTupRev, DL.dRevSl, DL.fRevSl, DL.iRevD, DL.iEnumD, DL.iEnumA, DL.iZipD, DL.sMPar, DL.r_shl, DL.r_shr, DL.setMx, DL.mNil, DL.mD, DL.mN, DL.nF, DL.nH0, DL.nH1, DL.Ct.sl, DL.sParDF, DL.sParFD, DL.sParFF, DL.sSetDc, DL.isB_int_d, DL.isB_bool_d, DL.isB_tuple_d, DL.isB_list_d, DL.isB_str_d, DL.isB_dict_d, DL.noq_d, DL.r_any_l, DL.r_any_t2, DL.r_any_s, DL.r_some_l, DL.r_some_t2, DL.r_some_s, DL.r_draw, DL.isB_int_q, DL.isB_bool_q, DL.isB_tuple_q, DL.isB_list_q, DL.isB_str_q, DL.isB_dict_q, DL.r_is_dn, DL.r_isnt_dn, ite_true, ite_false, if_true, if_false, List.any_cons, List.any_nil, Bool.or_false, Bool.false_or, Bool.true_or, Bool.or_true,
 
  DL.r_add_i, DL.r_add_s, DL.r_add_t, DL.r_sub, DL.r_mul, DL.r_mod, DL.r_div, DL.r_pow, DL.r_lt, DL.r_le, DL.r_gt, DL.r_ge, DL.r_augp, DL.r_augm, DL.r_eq_nn, DL.r_ne_nn, DL.r_eq_nb, DL.r_ne_nb, DL.r_eq_ni, DL.r_ne_ni, DL.r_eq_ns, DL.r_ne_ns, DL.r_eq_bn, DL.r_ne_bn, DL.r_eq_bb, DL.r_ne_bb, DL.r_eq_in, DL.r_ne_in, DL.r_eq_ii, DL.r_ne_ii, DL.r_eq_is, DL.r_ne_is, DL.r_eq_sn, DL.r_ne_sn, DL.r_eq_si, DL.r_ne_si, DL.r_eq_ss, DL.r_ne_ss, DL.r_eq_ll, DL.r_ne_ll, DL.r_eq_lt, DL.r_ne_lt, DL.r_eq_ln, DL.r_ne_ln, DL.r_eq_li, DL.r_ne_li, DL.r_eq_ls, DL.r_ne_ls, DL.r_eq_lb, DL.r_ne_lb, DL.r_eq_nl2, DL.r_ne_nl2, DL.r_eq_il2, DL.r_ne_il2, DL.r_eq_sl2, DL.r_ne_sl2, DL.r_eq_bl2, DL.r_ne_bl2, DL.r_eq_tl, DL.r_ne_tl, DL.r_eq_tt, DL.r_ne_tt, DL.r_eq_tn, DL.r_ne_tn, DL.r_eq_ti, DL.r_ne_ti, DL.r_eq_ts, DL.r_ne_ts, DL.r_eq_tb, DL.r_ne_tb, DL.r_eq_nt2, DL.r_ne_nt2, DL.r_eq_it2, DL.r_ne_it2, DL.r_eq_st2, DL.r_ne_st2, DL.r_eq_bt2, DL.r_ne_bt2, DL.r_is_bb, DL.r_isnt_bb, DL.r_is_nn, DL.r_isnt_nn, DL.r_is_in, DL.r_isnt_in, DL.r_is_sn, DL.r_isnt_sn, DL.r_is_ln, DL.r_isnt_ln, DL.r_is_tn, DL.r_isnt_tn, DL.r_is_bn, DL.r_isnt_bn, DL.r_ix_l, DL.r_ix_t, DL.at0, DL.at1, DL.at2, DL.at3, DL.at4, DL.ixn10, DL.ixn20, DL.ixn21, DL.ixn30, DL.ixn31, DL.ixn32, DL.ixn40, DL.ixn41, DL.ixn42, DL.ixn43, DL.ixn50, DL.ixn51, DL.ixn52, DL.ixn53, DL.ixn54, DL.r_sl_t, DL.r_sl_l, DL.r_sl_q, DL.r_len_l, DL.r_len_t, DL.r_len_s, DL.r_abs, DL.r_int_i, DL.r_int_b, DL.r_max2, DL.r_min2, DL.r_sum, DL.r_any, DL.r_all, DL.r_tuple_l, DL.r_tuple_t, DL.r_list_l, DL.r_list_t, DL.r_isi, DL.noq_n, DL.noq_b, DL.noq_i, DL.noq_s, DL.noq_l, DL.noq_t, DL.noq_q, DL.tru_n, DL.tru_b, DL.tru_i, DL.tru_l, DL.tru_t, DL.isB_int_n, DL.isB_int_b, DL.isB_int_i, DL.isB_int_s, DL.isB_int_l, DL.isB_int_t, DL.isB_bool_n, DL.isB_bool_b, DL.isB_bool_i, DL.isB_bool_s, DL.isB_bool_l, DL.isB_bool_t, DL.isB_tuple_n, DL.isB_tuple_b, DL.isB_tuple_i, DL.isB_tuple_s, DL.isB_tuple_l, DL.isB_tuple_t, DL.isB_list_n, DL.isB_list_b, DL.isB_list_i, DL.isB_list_s, DL.isB_list_l, DL.isB_list_t, DL.isB_str_n, DL.isB_str_b, DL.isB_str_i, DL.isB_str_s, DL.isB_str_l, DL.isB_str_t, DL.isB_dict_n, DL.isB_dict_b, DL.isB_dict_i, DL.isB_dict_s, DL.isB_dict_l, DL.isB_dict_t,
  List.map_cons, List.map_nil, List.length_cons, List.length_nil, List.cons_append, List.nil_append, List.replicate_succ, List.replicate_zero, Nat.sub_self, Nat.add_one_sub_one, Nat.zero_add, Nat.reduceAdd, Nat.reduceSub, Int.cast_ofNat_Int, List.getElem?_cons_zero, List.getElem?_cons_succ, List.set_cons_zero, List.set_cons_succ, true_and, and_true, decide_eq_true_eq, decide_eq_false_iff_not, forall_const, false_implies, true_implies, reduceCtorEq, implies_true, Bool.true_eq_false, Bool.false_eq_true, Bool.not_true, Bool.not_false, Bool.not_eq_true', Bool.not_eq_false', bne_self_eq_false, beq_self_eq_true, Option.some.injEq, exists_eq_left', exists_eq_left, ne_eq, not_false_eq_true, not_true_eq_false])
namespace K36
open PySem PySem.Spec PyProof.Rows L2 DL
theorem sz_small {k : Nat} (h : k ≤ 100000) : k ≤ sizeLine := by rw [sizeLine_eq]; omega
theorem sz_lt {k : Nat} (h : k ≤ 100000) : k < sizeLine := by rw [sizeLine_eq]; omega
theorem natsD_len (l : List Nat) : (natsD l).length = l.length := by unfold natsD; rw [List.length_map]
theorem natsD_snoc (l : List Nat) (x : Nat) : natsD l ++ [.int (x : Nat)] = natsD (l ++ [x]) := by unfold natsD; rw [List.map_append]; rfl
theorem natsD_rev (l : List Nat) : (natsD l).reverse = natsD l.reverse := by unfold natsD; rw [List.map_reverse]
theorem natsD_ints (l : List Nat) : natsD l = (l.map fun i : Nat => (i : Int)).map D.int := by unfold natsD; rw [List.map_map]; rfl
theorem natsD_get {l : List Nat} {i : Nat} {x : D} (h : (natsD l)[i]? = some x) : ∃ d, l[i]? = some d ∧ x = .int (d : Nat) := by
  unfold natsD at h
  rw [List.getElem?_map] at h
  cases e : l[i]? with
  | none => rw [e] at h; cases h
  | some d => rw [e] at h; cases h; exact ⟨d, rfl, rfl⟩
theorem fm {a b : Int} (h : 0 ≤ b) : a.fmod b = a % b := Int.fmod_eq_emod_of_nonneg a h
theorem fd {a b : Int} (h : 0 ≤ b) : a.fdiv b = a / b := Int.fdiv_eq_ediv_of_nonneg a h
theorem dok {a b : Int} (h : 1 ≤ b) (h2 : b ≤ 1000000) : DivOk a b := ⟨by omega, .inl (by omega)⟩
theorem mokl {a b : Int} (h : a.natAbs ≤ 10 ^ 18) : MulOk a b := .inl ⟨by omega, by omega⟩
theorem mokr {a b : Int} (h : b.natAbs ≤ 10 ^ 18) : MulOk a b := .inr (.inl ⟨by omega, by omega⟩)
theorem okN_get {x : D} (h : okN x = true) : ∃ n : Nat, x = .int (n : Nat) ∧ n ≤ 10 ^ 60 := by
  unfold okN at h
  split at h
  · rename_i i
    rw [Bool.and_eq_true, decide_eq_true_eq, decide_eq_true_eq] at h
    exact ⟨i.toNat, by rw [Int.toNat_of_nonneg h.1], by omega⟩
  · cases h
theorem okPr_get {x : D} (h : okPr x = true) : ∃ n : Nat, x = .int (n : Nat) ∧ 2 ≤ n ∧ n ≤ 1000000 ∧ isPr n = true := by
  unfold okPr at h
  split at h
  · rename_i i
    rw [Bool.and_eq_true, Bool.and_eq_true, decide_eq_true_eq, decide_eq_true_eq] at h
    exact ⟨i.toNat, by rw [Int.toNat_of_nonneg (by omega)], by omega, by omega, h.2⟩
  · cases h
theorem hd_check_numbers (cBadNumber : Addr) (ds : List D) (Qd : Rf → Prop) (Ed : Addr → Prop) (hn : ds.length = 1) (h : S_check_numbers cBadNumber ds Qd Ed) : rd_check_numbers cBadNumber (endA Qd Ed) (argsD 2 ds) := by
  unfold S_check_numbers at h
  split at h
  · rename_i xs
    obtain ⟨h1, h2, h3, h4⟩ := h
    unfold rd_check_numbers
    walk_at "dl"
    refine for_lst (fun i δ => ∃ a, δ = [.d (.tup xs), a] ∧ ∀ j x, j < i → xs[j]? = some x → okN x = true) ⟨_, rfl, fun j _ hj => absurd hj (by omega)⟩ ?_ ?_
    · rintro i x δ hx ⟨a, rfl, c⟩
      walk_at "dl"
      simp only [S_is_integer]
      refine ⟨List.all_eq_true.mp h2 x (List.mem_of_getElem? hx), ?_⟩
      have bad : okN x = false → Ed cBadNumber := fun e => h3 (by
        rw [Bool.eq_false_iff]; intro z
        have := List.all_eq_true.mp z x (List.mem_of_getElem? hx)
        rw [e] at this; cases this)
      have good : okN x = true → ∀ j y, j < i + 1 → xs[j]? = some y → okN y = true := fun e j y hj hy => by
        by_cases h : j < i
        · exact c j y h hy
        · have : j = i := by omega
          subst this
          rw [hx] at hy; cases hy; exact e
      walk_at "dl"
      refine ⟨fun e => bad ?_, fun e => ?_⟩
      · cases x <;> first | rfl | exact absurd (show true = false from e) (by decide)
      · cases x <;> first | exact absurd (show false = true from e) (by decide) | skip
        rename_i j
        walk_at "dl"
        refine ⟨fun e0 => ⟨fun e1 => bad ?_, fun e1 => ⟨_, rfl, good ?_⟩⟩, fun e0 => bad ?_⟩
        · show (decide _ && decide _) = false
          rw [decide_eq_false (show ¬ j ≤ 10 ^ 60 from e1), Bool.and_false]
        · show (decide _ && decide _) = true
          rw [decide_eq_true (show j ≤ 10 ^ 60 from e1), decide_eq_true e0]; rfl
        · show (decide _ && decide _) = false
          rw [decide_eq_false e0]; rfl
    · rintro δ ⟨a, rfl, c⟩
      walk_at "dl"
      refine h4 (List.all_eq_true.mpr fun x hx => ?_)
      obtain ⟨j, hj⟩ := List.mem_iff_getElem?.mp hx
      exact c j x (List.getElem?_eq_some_iff.mp hj).1 hj
  · exact h.elim
theorem strip_le : ∀ (f r o : Nat), 2 ≤ o → strip f r o ≤ r
  | 0, r, o, _ => Nat.le_refl _
  | f + 1, r, o, h => by
    unfold strip
    split
    · exact Nat.le_trans (strip_le f _ o h) (Nat.div_le_self ..)
    · exact Nat.le_refl _
theorem hd_primes_of (ds : List D) (Qd : Rf → Prop) (Ed : Addr → Prop) (hn : ds.length = 1) (h : S_primes_of ds Qd Ed) : rd_primes_of (endA Qd Ed) (argsD 4 ds) := by
  unfold S_primes_of at h
  split at h
  · obtain ⟨n, rfl, n2, n6, q⟩ := h
    unfold rd_primes_of
    walk_at "dl"
    refine ⟨by decide, fun p hp => ?_⟩
    unfold sWhile
    refine ⟨fun m δ => ∃ (f rest one : Nat) (acc : List Nat), δ = [.d (.int (n : Int)), .o p (natsD acc), .d (.int (rest : Int)), .d (.int (one : Int))] ∧ acc ++ pd f rest one = pds n ∧ rest < f + one ∧ 2 ≤ one ∧ rest ≤ n ∧ 1 ≤ rest ∧ one ≤ 1001 ∧ acc.length + 1 ≤ one ∧ 1 ≤ f ∧ m = f, ⟨_, n, n, 2, [], rfl, rfl, by omega, by omega, by omega, by omega, by omega, by simp, by omega, rfl⟩, ?_⟩
    rintro m δ ⟨f, rest, one, acc, rfl, ha, hf, o2, hrn, hr1, hon, hal, hf1, rfl⟩
    walk_at "dl"
    have zz : ((one : Int) * (one : Int) ≤ (rest : Int)) ↔ one * one ≤ rest := by rw [← Int.natCast_mul]; omega
    refine ⟨mokl (by omega), fun z => ?_, fun z => ?_⟩
    · have z := zz.mp z
      have o1000 : one ≤ 1000 := by
        rcases Nat.lt_or_ge 1000 one with g | g
        · have := Nat.mul_le_mul (show 1001 ≤ one from g) (show 1001 ≤ one from g)
          omega
        · exact g
      have oo : one ≤ one * one := Nat.le_mul_of_pos_left one (by omega)
      have oo2 : 2 * one ≤ one * one := Nat.mul_le_mul_right one o2
      obtain ⟨f, rfl⟩ : ∃ f', m = f' + 1 := ⟨m - 1, by omega⟩
      rw [fm (by omega), ← Int.natCast_emod]
      refine ⟨fun δ => ∃ (r : Nat) (acc2 : List Nat), δ = [.d (.int (n : Int)), .o p (natsD acc2), .d (.int (r : Int)), .d (.int (one : Int))] ∧ acc2 ++ pd f r (one + 1) = pds n ∧ 1 ≤ r ∧ r ≤ rest ∧ acc2.length + 1 ≤ one + 1, ⟨by omega, fun e => ?_, fun e => ?_⟩, ?_⟩
      · rw [natsD_snoc]
        have st : pd (f + 1) rest one = one :: pd f (strip rest rest one) (one + 1) := by
          show (if one * one ≤ rest then (if rest % one = 0 then _ else _) else _) = _
          rw [if_pos z, if_pos (by omega)]
        rw [st] at ha
        refine ⟨by rw [natsD_len]; exact sz_lt (by omega), fun m' δ => ∃ g r : Nat, δ = [.d (.int (n : Int)), .o p (natsD (acc ++ [one])), .d (.int (r : Int)), .d (.int (one : Int))] ∧ strip g r one = strip rest rest one ∧ r ≤ g ∧ 1 ≤ r ∧ r ≤ rest ∧ m' = r, ⟨_, rest, rest, rfl, rfl, by omega, by omega, by omega, rfl⟩, ?_⟩
        rintro m' δ ⟨g, r, rfl, hs, hg, r1, rr, rfl⟩
        walk_at "dl"
        rw [fm (by omega), ← Int.natCast_emod, fd (by omega), ← Int.natCast_ediv]
        refine ⟨by omega, fun u => ?_, fun u => ?_⟩
        · obtain ⟨g, rfl⟩ : ∃ g', g = g' + 1 := ⟨g - 1, by omega⟩
          have eg : strip (g + 1) m' one = strip g (m' / one) one := by
            show (if m' % one = 0 then _ else _) = _
            rw [if_pos (by omega)]
          have dlt : m' / one < m' := Nat.div_lt_self (by omega) (by omega)
          have dge : 1 ≤ m' / one := by
            have hd : one ∣ m' := Nat.dvd_of_mod_eq_zero (by omega)
            exact Nat.div_pos (Nat.le_of_dvd (by omega) hd) (by omega)
          exact ⟨dok (by omega) (by omega), m' / one, by omega, g, m' / one, rfl, by rw [← eg]; exact hs, by omega, by omega, by omega, rfl⟩
        · have eg : strip g m' one = m' := by
            cases g with
            | zero => rfl
            | succ g =>
              show (if m' % one = 0 then _ else _) = _
              rw [if_neg (by omega)]
          rw [eg] at hs
          refine ⟨m', acc ++ [one], rfl, ?_, by omega, by omega, by rw [List.length_append]; simp only [List.length_cons, List.length_nil]; omega⟩
          rw [List.append_assoc, List.singleton_append, hs]
          exact ha
      · have st : pd (f + 1) rest one = pd f rest (one + 1) := by
          show (if one * one ≤ rest then (if rest % one = 0 then _ else _) else _) = _
          rw [if_pos z, if_neg (by omega)]
        rw [st] at ha
        exact ⟨rest, acc, rfl, ha, by omega, by omega, by omega⟩
      · rintro δ ⟨r, acc2, rfl, h1, h2, h3, h4⟩
        walk_at "dl"
        exact ⟨f, by omega, f, r, one + 1, acc2, rfl, h1, by omega, by omega, by omega, by omega, by omega, by omega, by omega, rfl⟩
    · have z : ¬ one * one ≤ rest := fun y => z (zz.mpr y)
      have st : pd m rest one = if 1 < rest then [rest] else [] := by
        cases m with
        | zero => omega
        | succ f =>
          show (if one * one ≤ rest then _ else _) = _
          rw [if_neg z]
      rw [st] at ha
      refine ⟨fun δ => δ = [.d (.int (n : Int)), .o p (natsD (pds n)), .d (.int (rest : Int)), .d (.int (one : Int))], ⟨fun u => ⟨by rw [natsD_len]; exact sz_lt (by omega), ?_⟩, fun u => ?_⟩, ?_⟩
      · rw [if_pos (by omega)] at ha
        rw [natsD_snoc, ha]
      · rw [if_neg (by omega), List.append_nil] at ha
        rw [ha]
      · rintro δ rfl
        exact q
  · exact h.elim
theorem hd_is_prime (ds : List D) (Qd : Rf → Prop) (Ed : Addr → Prop) (hn : ds.length = 1) (h : S_is_prime ds Qd Ed) : rd_is_prime (endA Qd Ed) (argsD 1 ds) := by
  unfold S_is_prime at h
  split at h
  · obtain ⟨n, rfl, n2, n6, q⟩ := h
    unfold rd_is_prime
    walk_at "dl"
    refine ⟨fun _ => ?_, fun z => absurd z (by omega)⟩
    simp only [S_primes_of]
    refine ⟨n, rfl, n2, n6, ?_⟩
    walk_at "dl"
    have e1 : D.lst [D.int (n : Int)] = .lst ([(n : Int)].map D.int) := rfl
    rw [natsD_ints, e1, eqv_lints]
    refine ⟨by decide, okE_lints _, okE_lints _, ?_⟩
    have e2 : decide ((pds n).map (fun i : Nat => (i : Int)) = [(n : Int)]) = isPr n := by
      unfold isPr
      rw [decide_eq_true (show 1 < n by omega), Bool.true_and, Bool.eq_iff_iff, decide_eq_true_eq, decide_eq_true_eq]
      constructor
      · intro h
        have h2 : (pds n).map (fun i : Nat => (i : Int)) = [n].map fun i : Nat => (i : Int) := h
        exact (List.map_inj_right (fun a b h => by omega)).mp h2
      · intro h; rw [h]; rfl
    rw [e2]
    exact q
  · exact h.elim
theorem within_get {lo hi : Int} {x : D} (h : within lo hi x = true) : ∃ i : Int, x = .int i ∧ lo ≤ i ∧ i ≤ hi := by
  unfold within at h
  split at h
  · rw [Bool.and_eq_true, decide_eq_true_eq, decide_eq_true_eq] at h
    exact ⟨_, rfl, h.1, h.2⟩
  · cases h
theorem hd_check_prime (cBadBase : Addr) (ds : List D) (Qd : Rf → Prop) (Ed : Addr → Prop) (hn : ds.length = 1) (h : S_check_prime cBadBase ds Qd Ed) : rd_check_prime cBadBase (endA Qd Ed) (argsD 1 ds) := by
  unfold S_check_prime at h
  split at h
  · rename_i x
    obtain ⟨h1, h2, h3⟩ := h
    unfold rd_check_prime
    walk_at "dl"
    simp only [S_is_within]
    refine ⟨h1, ?_⟩
    walk_at "dl"
    refine ⟨fun e => h2 ?_, fun e => ?_⟩
    · cases x <;> first | rfl | skip
      rename_i i
      show (decide _ && decide _ && _) = false
      rw [show (decide ((2 : Int) ≤ i) && decide (i ≤ 1000000)) = false from e]; rfl
    · obtain ⟨i, rfl, i3, i18⟩ := within_get e
      obtain ⟨n, rfl⟩ := Int.eq_ofNat_of_zero_le (show 0 ≤ i by omega)
      simp only [S_is_prime]
      refine ⟨n, rfl, by omega, by omega, ?_⟩
      have e2 : okPr (.int (n : Nat)) = isPr n := by
        show (decide _ && decide _ && isPr _) = _
        rw [decide_eq_true i3, decide_eq_true i18]; rfl
      rw [e2] at h2 h3
      walk_at "dl"
      exact ⟨h2, h3⟩
  · exact h.elim
theorem n_down {p a b : Nat} (hp : 2 ≤ p) (h : ¬ (a = 0 ∧ b = 0)) : a / p + b / p < a + b := by
  rcases Nat.eq_zero_or_pos a with rfl | ha
  · have := Nat.div_lt_self (show 0 < b by omega) (show 1 < p by omega)
    rw [Nat.zero_div]; omega
  · have := Nat.div_lt_self ha (show 1 < p by omega)
    have := Nat.div_le_self b p
    omega
theorem bits60 {n : Nat} (h : n ≤ 10 ^ 60) : n < 2 ^ 200 := Nat.lt_of_le_of_lt h (by decide)
theorem n0 {a : Nat} : ((a : Int) > 0) ↔ a ≠ 0 := by omega
theorem hd_figures_of (ds : List D) (Qd : Rf → Prop) (Ed : Addr → Prop) (hn : ds.length = 2) (h : S_figures_of ds Qd Ed) : rd_figures_of (endA Qd Ed) (argsD 3 ds) := by
  unfold S_figures_of at h
  split at h
  · obtain ⟨n, p, rfl, rfl, hn, p2, p6, q⟩ := h
    unfold rd_figures_of
    walk_at "dl"
    refine ⟨by decide, fun r hr => ?_⟩
    have hL := dg_len p2 200 n (bits60 hn)
    unfold sWhile
    refine ⟨fun m δ => ∃ (a : Nat) (acc : List Nat), δ = [.d (.int (a : Int)), .d (.int (p : Int)), .o r (natsD acc)] ∧ acc ++ dg p a = dg p n ∧ m = a, ⟨_, n, [], rfl, rfl, rfl⟩, ?_⟩
    rintro m δ ⟨a, acc, rfl, ha, rfl⟩
    walk_at "dl"
    rw [fm (by omega), fd (by omega), ← Int.natCast_ediv, ← Int.natCast_emod, natsD_snoc]
    have hac : acc.length ≤ 200 := by rw [← ha, List.length_append] at hL; omega
    refine ⟨fun z => ?_, fun z => ?_⟩
    · have nz : m ≠ 0 := by omega
      rw [dg_step p2 nz] at ha
      refine ⟨by omega, by rw [natsD_len]; exact sz_lt (by omega), dok (by omega) (by omega), m / p, Nat.div_lt_self (by omega) (by omega), m / p, acc ++ [m % p], rfl, ?_, rfl⟩
      rw [List.append_assoc, List.singleton_append]
      exact ha
    · have e : m = 0 := by omega
      subst e
      rw [dg_zero, List.append_nil] at ha
      subst ha
      refine fun _ _ => ?_
      rw [natsD_rev]
      exact q
  · exact h.elim
theorem hd_carries_of (ds : List D) (Qd : Rf → Prop) (Ed : Addr → Prop) (hn : ds.length = 3) (h : S_carries_of ds Qd Ed) : rd_carries_of (endA Qd Ed) (argsD 5 ds) := by
  unfold S_carries_of at h
  split at h
  · obtain ⟨k, l, p, rfl, rfl, rfl, hk, hl, p2, p6, q⟩ := h
    unfold rd_carries_of
    walk_at "dl"
    refine ⟨by decide, fun r hr => ?_⟩
    have hL := crs_len p2 200 k l 0 (bits60 hk) (bits60 hl) (by omega)
    unfold sWhile
    refine ⟨fun m δ => ∃ (a b c : Nat) (acc : List Nat), δ = [.d (.int (a : Int)), .d (.int (b : Int)), .d (.int (p : Int)), .o r (natsD acc), .d (.int (c : Int))] ∧ acc ++ crs p a b c = crs p k l 0 ∧ m = a + b + c, ⟨_, k, l, 0, [], rfl, rfl, rfl⟩, ?_⟩
    rintro m δ ⟨a, b, c, acc, rfl, ha, rfl⟩
    walk_at "dl"
    rw [fm (by omega), fm (by omega), fd (by omega), fd (by omega), ← Int.natCast_ediv, ← Int.natCast_ediv, ← Int.natCast_emod, ← Int.natCast_emod]
    have hac : acc.length ≤ 201 := by rw [← ha, List.length_append] at hL; omega
    have s1 : D.int 1 = .int ((1 : Nat) : Int) := rfl
    have s0 : D.int 0 = .int ((0 : Nat) : Int) := rfl
    rw [s1, s0, natsD_snoc, natsD_snoc]
    have cc : ((p : Int) ≤ ((a % p : Nat) : Int) + ((b % p : Nat) : Int) + (c : Int)) ↔ p ≤ a % p + b % p + c := by omega
    have ll : ∀ v : Nat, (natsD acc).length < sizeLine := fun _ => by rw [natsD_len]; exact sz_lt (by omega)
    refine ⟨fun z => ?_, fun z => ⟨fun w => ?_, fun w => ⟨fun y => ?_, fun y => ?_⟩⟩⟩
    rotate_right
    · have e1 : a = 0 := by omega
      have e2 : b = 0 := by omega
      have e3 : c = 0 := by omega
      subst e1 e2 e3
      rw [crs_zero, List.append_nil] at ha
      rw [ha]
      exact q
    all_goals (
      have nz : ¬ (a = 0 ∧ b = 0 ∧ c = 0) := by omega
      have dn := cr_down p2 nz
      rw [crs_step p2 nz] at ha
      refine ⟨by omega, by omega, fun g => ?_, fun g => ?_⟩
      · rw [if_pos (cc.mp g)] at ha dn
        refine ⟨ll 0, dok (by omega) (by omega), dok (by omega) (by omega), _, dn, a / p, b / p, 1, acc ++ [1], rfl, ?_, rfl⟩
        rw [List.append_assoc, List.singleton_append]
        exact ha
      · rw [if_neg fun u => g (cc.mpr u)] at ha dn
        refine ⟨ll 0, dok (by omega) (by omega), dok (by omega) (by omega), _, dn, a / p, b / p, 0, acc ++ [0], rfl, ?_, rfl⟩
        rw [List.append_assoc, List.singleton_append]
        exact ha)
  · exact h.elim
theorem dg_lt {p : Nat} (hp : 2 ≤ p) : ∀ (s n : Nat), n ≤ s → ∀ d ∈ dg p n, d < p
  | 0, n, h, d, hd => by
    obtain rfl : n = 0 := by omega
    rw [dg_zero] at hd; cases hd
  | s + 1, n, h, d, hd => by
    by_cases z : n = 0
    · subst z; rw [dg_zero] at hd; cases hd
    · rw [dg_step hp z] at hd
      rcases List.mem_cons.mp hd with rfl | hd
      · exact Nat.mod_lt _ (by omega)
      · exact dg_lt hp s (n / p) (by have := Nat.div_lt_self (show 0 < n by omega) (show 1 < p by omega); omega) d hd
theorem sum_cast : ∀ l : List Nat, (l.map fun i : Nat => (i : Int)).sum = ((l.sum : Nat) : Int)
  | [] => rfl
  | x :: l => by
    rw [List.map_cons, List.sum_cons, List.sum_cons, sum_cast l, Int.natCast_add]
theorem fmN {a b : Nat} : ((a : Nat) : Int).fmod (b : Int) = ((a % b : Nat) : Int) := by rw [fm (by omega), Int.natCast_emod]
theorem fdN {a b : Nat} : ((a : Nat) : Int).fdiv (b : Int) = ((a / b : Nat) : Int) := by rw [fd (by omega), Int.natCast_ediv]
theorem cn2 {cn : Addr} {x y : D} {Q : Rf → Prop} {E : Addr → Prop} (h1 : noq x = true) (h2 : noq y = true) (h3 : okN x = false ∨ okN y = false → E cn) (q : okN x = true → okN y = true → Q (.d .non)) : S_check_numbers cn [.tup [x, y]] Q E := by
  refine ⟨(show 2 ≤ 5 by decide), by rw [List.all_cons, List.all_cons, h1, h2]; rfl, fun e => h3 ?_, fun e => ?_⟩
  · rw [List.all_cons, List.all_cons] at e
    cases e1 : okN x <;> cases e2 : okN y <;> simp_all
  · rw [List.all_cons, List.all_cons] at e
    refine q ?_ ?_
    · cases e1 : okN x <;> cases e2 : okN y <;> simp_all
    · cases e1 : okN x <;> cases e2 : okN y <;> simp_all
theorem cn1 {cn : Addr} {x : D} {Q : Rf → Prop} {E : Addr → Prop} (h1 : noq x = true) (h3 : okN x = false → E cn) (q : okN x = true → Q (.d .non)) : S_check_numbers cn [.tup [x]] Q E := by
  refine ⟨(show 1 ≤ 5 by decide), by rw [List.all_cons, h1]; rfl, fun e => h3 ?_, fun e => q ?_⟩
  · rw [List.all_cons] at e; cases e1 : okN x <;> simp_all
  · rw [List.all_cons] at e; cases e1 : okN x <;> simp_all
theorem wnat {lo hi : Nat} {x : D} (h : within lo hi x = true) : ∃ n : Nat, x = .int (n : Nat) ∧ lo ≤ n ∧ n ≤ hi := by
  obtain ⟨i, rfl, a, b⟩ := within_get h
  obtain ⟨n, rfl⟩ := Int.eq_ofNat_of_zero_le (show 0 ≤ i by omega)
  exact ⟨n, rfl, by omega, by omega⟩
theorem hd_carry_number (cBadBase cBadNumber : Addr) (ds : List D) (Qd : Rf → Prop) (Ed : Addr → Prop) (hn : ds.length = 3) (h : S_carry_number cBadBase cBadNumber ds Qd Ed) : rd_carry_number cBadBase cBadNumber (endA Qd Ed) (argsD 3 ds) := by
  unfold S_carry_number at h
  split at h
  · rename_i x y z
    obtain ⟨h1, h2, h3, h4⟩ := h
    unfold rd_carry_number
    walk_at "dl"
    refine ⟨by decide, cn2 h1 h2 h3 fun ex ey => ?_⟩
    obtain ⟨h5, h6, h7⟩ := h4 ex ey
    walk_at "dl"
    simp only [S_is_within]
    refine ⟨h5, ?_⟩
    walk_at "dl"
    refine ⟨h6, fun ez => ?_⟩
    obtain ⟨a, b, p, rfl, rfl, rfl, q⟩ := h7 ez
    obtain ⟨a', ea, a6⟩ := okN_get ex
    cases ea
    obtain ⟨b', eb, b6⟩ := okN_get ey
    cases eb
    obtain ⟨p', ep, p2, p6⟩ := wnat (lo := 2) (hi := 1000000) ez
    cases ep
    walk_at "dl"
    simp only [S_carries_of]
    refine ⟨a, b, p, rfl, rfl, rfl, a6, b6, p2, p6, ?_⟩
    walk_at "dl"
    refine ⟨(crs p a b 0).map fun i : Nat => (i : Int), natsD_ints _, ?_⟩
    rw [sum_cast]
    exact q
  · exact h.elim
theorem hd_often_in_choices (cBadBase cBadNumber : Addr) (ds : List D) (Qd : Rf → Prop) (Ed : Addr → Prop) (hn : ds.length = 3) (h : S_often_in_choices cBadBase cBadNumber ds Qd Ed) : rd_often_in_choices cBadBase cBadNumber (endA Qd Ed) (argsD 3 ds) := by
  unfold S_often_in_choices at h
  split at h
  · rename_i x y z
    obtain ⟨h1, h2, h3, h4⟩ := h
    unfold rd_often_in_choices
    walk_at "dl"
    refine ⟨by decide, cn2 h1 h2 h3 fun ex ey => ?_⟩
    obtain ⟨h5, h6, h7⟩ := h4 ex ey
    walk_at "dl"
    simp only [S_check_prime]
    refine ⟨h5, h6, fun ez => ?_⟩
    obtain ⟨n, k, p, rfl, rfl, rfl, qn, q⟩ := h7 ez
    obtain ⟨n', ea, n6⟩ := okN_get ex
    cases ea
    obtain ⟨k', eb, k6⟩ := okN_get ey
    cases eb
    obtain ⟨p', ep, p2, p6, pp⟩ := okPr_get ez
    cases ep
    walk_at "dl"
    refine ⟨fun y => qn (by omega), fun y => ?_⟩
    simp only [S_carries_of]
    refine ⟨k, n - k, p, rfl, by omega, rfl, by omega, by omega, p2, p6, ?_⟩
    walk_at "dl"
    refine ⟨(crs p k (n - k) 0).map fun i : Nat => (i : Int), natsD_ints _, ?_⟩
    rw [sum_cast]
    exact q (by omega)
  · exact h.elim
theorem hd_often_in (cBadBase cBadNumber : Addr) (ds : List D) (Qd : Rf → Prop) (Ed : Addr → Prop) (hn : ds.length = 2) (h : S_often_in cBadBase cBadNumber ds Qd Ed) : rd_often_in cBadBase cBadNumber (endA Qd Ed) (argsD 3 ds) := by
  unfold S_often_in at h
  split at h
  · rename_i x z
    obtain ⟨h1, h2, h3⟩ := h
    unfold rd_often_in
    walk_at "dl"
    simp only [S_is_integer]
    refine ⟨h1, ?_⟩
    walk_at "dl"
    refine ⟨fun e => h2 ?_, fun e => ?_⟩
    · cases x <;> first | rfl | exact absurd (show true = false from e) (by decide)
    obtain ⟨i, rfl⟩ : ∃ i, x = .int i := by
      cases x <;> first | exact ⟨_, rfl⟩ | exact absurd (show false = true from e) (by decide)
    walk_at "dl"
    refine ⟨fun a => ⟨fun b => h2 ?_, fun b => ?_⟩, fun a => h2 ?_⟩
    · show (decide _ && decide _) = false
      rw [decide_eq_false (show ¬ i ≤ 10 ^ 60 from b), Bool.and_false]
    · obtain ⟨h4, h5, h6⟩ := h3 (show (decide _ && decide _) = true by rw [decide_eq_true a, decide_eq_true (show i ≤ 10 ^ 60 from b)]; rfl)
      simp only [S_check_prime]
      refine ⟨h4, h5, fun ez => ?_⟩
      obtain ⟨n, p, e1, rfl, q⟩ := h6 ez
      cases e1
      obtain ⟨p', ep, p2, p6, pp⟩ := okPr_get ez
      cases ep
      walk_at "dl"
      unfold sWhile
      refine ⟨fun m δ => ∃ t : Nat, δ = [.d (.int (m : Int)), .d (.int (p : Int)), .d (.int (t : Int))] ∧ 1 ≤ m ∧ t + oi p m = oi p n, ⟨n, 0, rfl, by omega, by omega⟩, ?_⟩
      rintro m δ ⟨t, rfl, m1, ht⟩
      walk_at "dl"
      rw [fmN, fdN]
      refine ⟨by omega, fun y => ?_, fun y => ?_⟩
      · obtain ⟨y1, y2, y3⟩ := oi_yes p2 m1 (show m % p = 0 by omega)
        exact ⟨dok (by omega) (by omega), m / p, y2, t + 1, rfl, y1, by omega⟩
      · rw [oi_no (show m % p ≠ 0 by omega)] at ht
        rw [show t = oi p n by omega]
        exact q
    · show (decide _ && decide _) = false
      rw [decide_eq_false a]; rfl
  · exact h.elim
theorem hd_often_in_product (cBadBase cBadNumber : Addr) (ds : List D) (Qd : Rf → Prop) (Ed : Addr → Prop) (hn : ds.length = 2) (h : S_often_in_product cBadBase cBadNumber ds Qd Ed) : rd_often_in_product cBadBase cBadNumber (endA Qd Ed) (argsD 3 ds) := by
  unfold S_often_in_product at h
  split at h
  · rename_i x z
    obtain ⟨h1, h2, h3⟩ := h
    unfold rd_often_in_product
    walk_at "dl"
    refine ⟨by decide, cn1 h1 h2 fun ex => ?_⟩
    obtain ⟨h4, h5, h6⟩ := h3 ex
    walk_at "dl"
    simp only [S_check_prime]
    refine ⟨h4, h5, fun ez => ?_⟩
    obtain ⟨n, p, rfl, rfl, q⟩ := h6 ez
    obtain ⟨p', ep, p2, p6, pp⟩ := okPr_get ez
    cases ep
    walk_at "dl"
    unfold sWhile
    refine ⟨fun m δ => ∃ t : Nat, δ = [.d (.int (m : Int)), .d (.int (p : Int)), .d (.int (t : Int))] ∧ t + ip p m = ip p n, ⟨n, 0, rfl, by omega⟩, ?_⟩
    rintro m δ ⟨t, rfl, ht⟩
    walk_at "dl"
    rw [fdN]
    refine ⟨fun y => ?_, fun y => ?_⟩
    · rw [ip_step p2 (by omega)] at ht
      exact ⟨dok (by omega) (by omega), m / p, Nat.div_lt_self (by omega) (by omega), t + m / p, rfl, by omega⟩
    · obtain rfl : m = 0 := by omega
      rw [ip_zero] at ht
      rw [show t = ip p n by omega]
      exact q
  · exact h.elim
theorem hd_often_by_figures (cBadBase cBadNumber : Addr) (ds : List D) (Qd : Rf → Prop) (Ed : Addr → Prop) (hn : ds.length = 2) (h : S_often_by_figures cBadBase cBadNumber ds Qd Ed) : rd_often_by_figures cBadBase cBadNumber (endA Qd Ed) (argsD 2 ds) := by
  unfold S_often_by_figures at h
  split at h
  · rename_i x z
    obtain ⟨h1, h2, h3⟩ := h
    unfold rd_often_by_figures
    walk_at "dl"
    refine ⟨by decide, cn1 h1 h2 fun ex => ?_⟩
    obtain ⟨h4, h5, h6⟩ := h3 ex
    walk_at "dl"
    simp only [S_check_prime]
    refine ⟨h4, h5, fun ez => ?_⟩
    obtain ⟨n, p, rfl, rfl, q⟩ := h6 ez
    obtain ⟨n', ea, n6⟩ := okN_get ex
    cases ea
    obtain ⟨p', ep, p2, p6, pp⟩ := okPr_get ez
    cases ep
    walk_at "dl"
    simp only [S_figures_of]
    refine ⟨n, p, rfl, rfl, n6, p2, p6, ?_⟩
    walk_at "dl"
    refine ⟨((dg p n).reverse).map fun i : Nat => (i : Int), natsD_ints _, ?_⟩
    rw [sum_cast, List.sum_reverse]
    have := legendre p2 _ n (Nat.le_refl _)
    rw [show (n : Int) - (((dg p n).sum : Nat) : Int) = ((ip p n * (p - 1) : Nat) : Int) by
      have e : (dg p n).sum = sd p n := rfl
      rw [e]; omega, show (p : Int) - 1 = ((p - 1 : Nat) : Int) by omega, fdN, Nat.mul_div_cancel _ (show 0 < p - 1 by omega)]
    exact ⟨dok (by omega) (by omega), q⟩
  · exact h.elim
theorem pw6 : CPow 10 6 := ⟨by decide, by decide, by decide⟩
theorem pw60 : CPow 10 60 := ⟨by decide, by decide, by decide⟩
theorem hd__law_often (ds : List D) (Qd : Rf → Prop) (Ed : Addr → Prop) (hn : ds.length = 2) (h : S__law_often ds Qd Ed) : rd__law_often (endA Qd Ed) (argsD 3 ds) := by
  unfold S__law_often at h
  split at h
  · obtain ⟨n, p, rfl, rfl, n1, p2, p6, q⟩ := h
    unfold rd__law_often
    walk_at "dl"
    unfold sWhile
    refine ⟨fun m δ => ∃ t : Nat, δ = [.d (.int (m : Int)), .d (.int (p : Int)), .d (.int (t : Int))] ∧ 1 ≤ m ∧ t + oi p m = oi p n, ⟨n, 0, rfl, by omega, by omega⟩, ?_⟩
    rintro m δ ⟨t, rfl, m1, ht⟩
    walk_at "dl"
    rw [fmN, fdN]
    refine ⟨by omega, fun y => ?_, fun y => ?_⟩
    · obtain ⟨y1, y2, y3⟩ := oi_yes p2 m1 (show m % p = 0 by omega)
      exact ⟨divM (by omega) (by omega), m / p, y2, t + 1, rfl, y1, by omega⟩
    · rw [oi_no (show m % p ≠ 0 by omega)] at ht
      rw [show t = oi p n by omega]
      exact q
  · exact h.elim
theorem hd__law_in_product (ds : List D) (Qd : Rf → Prop) (Ed : Addr → Prop) (hn : ds.length = 2) (h : S__law_in_product ds Qd Ed) : rd__law_in_product (endA Qd Ed) (argsD 3 ds) := by
  unfold S__law_in_product at h
  split at h
  · obtain ⟨n, p, rfl, rfl, p2, p6, q⟩ := h
    unfold rd__law_in_product
    walk_at "dl"
    unfold sWhile
    refine ⟨fun m δ => ∃ t : Nat, δ = [.d (.int (m : Int)), .d (.int (p : Int)), .d (.int (t : Int))] ∧ t + ip p m = ip p n, ⟨n, 0, rfl, by omega⟩, ?_⟩
    rintro m δ ⟨t, rfl, ht⟩
    walk_at "dl"
    rw [fdN]
    refine ⟨fun y => ?_, fun y => ?_⟩
    · rw [ip_step p2 (by omega)] at ht
      exact ⟨dok (by omega) (by omega), m / p, Nat.div_lt_self (by omega) (by omega), t + m / p, rfl, by omega⟩
    · obtain rfl : m = 0 := by omega
      rw [ip_zero] at ht
      rw [show t = ip p n by omega]
      exact q
  · exact h.elim
theorem okN_nat {n : Nat} (h : n ≤ 10 ^ 60) : okN (.int (n : Nat)) = true := by
  show (decide ((0 : Int) ≤ (n : Int)) && decide ((n : Int) ≤ 10 ^ 60)) = true
  rw [decide_eq_true (show (n : Int) ≤ 10 ^ 60 by omega), decide_eq_true (show (0 : Int) ≤ (n : Int) by omega)]; rfl
theorem okPr_nat {p : Nat} (h2 : 2 ≤ p) (h : p ≤ 1000000) (hp : isPr p = true) : okPr (.int (p : Nat)) = true := by
  show (decide _ && decide _ && isPr _) = true
  rw [decide_eq_true (show (2 : Int) ≤ (p : Int) by omega), decide_eq_true (show (p : Int) ≤ 1000000 by omega), Int.toNat_natCast, hp]; rfl
theorem wi2 {n : Nat} (h1 : 2 ≤ n) (h2 : n ≤ 1000000) : within 2 1000000 (.int (n : Nat)) = true := by
  show (decide ((2 : Int) ≤ n) && decide ((n : Int) ≤ 1000000)) = true
  rw [decide_eq_true (show (2 : Int) ≤ n by omega), decide_eq_true (show (n : Int) ≤ 1000000 by omega)]; rfl
theorem cnum_ask {cb cn : Addr} {a b p : Nat} {Q : Rf → Prop} {E : Addr → Prop} (ha : a ≤ 10 ^ 60) (hb : b ≤ 10 ^ 60) (p2 : 2 ≤ p) (p6 : p ≤ 1000000) (q : Q (.d (.int ((crs p a b 0).sum : Nat)))) : S_carry_number cb cn [.int (a : Nat), .int (b : Nat), .int (p : Nat)] Q E :=
  ⟨rfl, rfl, fun z => (by rw [okN_nat ha, okN_nat hb] at z; rcases z with z | z <;> cases z), fun _ _ => ⟨rfl, fun z => (by rw [wi2 p2 p6] at z; cases z), fun _ => ⟨a, b, p, rfl, rfl, rfl, q⟩⟩⟩
theorem sz2 : 2 ≤ sizeLine := by decide
theorem isP_nats {k : Nat} (l : List Nat) (h : l.length ≤ sizeLine) : isP (k + 1) (.tup (natsD l)) = true := by
  rw [natsD_ints]; exact isP_ints _ (by rw [List.length_map]; exact h)
theorem is_ask {x y : D} {n : Nat} {Q : Rf → Prop} {E : Addr → Prop} (e : x = y) (h : isP n x = true) (q : Q (.d (.bl true))) : S__law_is (n + 1) [x, y] Q E := by
  subst e
  exact ⟨rfl, h, q⟩
theorem win1 {n : Nat} (h1 : 1 ≤ n) (h2 : n ≤ 10 ^ 60) : within 1 (10 ^ 60) (.int (n : Nat)) = true := by
  show (decide ((1 : Int) ≤ n) && decide ((n : Int) ≤ 10 ^ 60)) = true
  rw [decide_eq_true (show (1 : Int) ≤ n by omega), decide_eq_true (show (n : Int) ≤ 10 ^ 60 by omega)]; rfl
theorem oft_ask {cb cn : Addr} {n p : Nat} {Q : Rf → Prop} {E : Addr → Prop} (n1 : 1 ≤ n) (hn : n ≤ 10 ^ 60) (hp : okPr (.int (p : Nat)) = true) (q : Q (.d (.int (oi p n : Nat)))) : S_often_in cb cn [.int (n : Nat), .int (p : Nat)] Q E :=
  ⟨rfl, fun z => (by rw [win1 n1 hn] at z; cases z), fun _ => ⟨rfl, fun z => (by rw [hp] at z; cases z), fun _ => ⟨n, p, rfl, rfl, q⟩⟩⟩
theorem oip_ask {cb cn : Addr} {n p : Nat} {Q : Rf → Prop} {E : Addr → Prop} (hn : n ≤ 10 ^ 60) (hp : okPr (.int (p : Nat)) = true) (q : Q (.d (.int (ip p n : Nat)))) : S_often_in_product cb cn [.int (n : Nat), .int (p : Nat)] Q E :=
  ⟨rfl, fun z => (by rw [okN_nat hn] at z; cases z), fun _ => ⟨rfl, fun z => (by rw [hp] at z; cases z), fun _ => ⟨n, p, rfl, rfl, q⟩⟩⟩
theorem obf_ask {cb cn : Addr} {n p : Nat} {Q : Rf → Prop} {E : Addr → Prop} (hn : n ≤ 10 ^ 60) (hp : okPr (.int (p : Nat)) = true) (q : Q (.d (.int (ip p n : Nat)))) : S_often_by_figures cb cn [.int (n : Nat), .int (p : Nat)] Q E :=
  ⟨rfl, fun z => (by rw [okN_nat hn] at z; cases z), fun _ => ⟨rfl, fun z => (by rw [hp] at z; cases z), fun _ => ⟨n, p, rfl, rfl, q⟩⟩⟩
theorem och_ask {cb cn : Addr} {n k p : Nat} {Q : Rf → Prop} {E : Addr → Prop} (hn : n ≤ 10 ^ 60) (hk : k ≤ 10 ^ 60) (hp : okPr (.int (p : Nat)) = true) (q0 : n < k → Q (.d .non)) (q : k ≤ n → Q (.d (.int ((crs p k (n - k) 0).sum : Nat)))) : S_often_in_choices cb cn [.int (n : Nat), .int (k : Nat), .int (p : Nat)] Q E :=
  ⟨rfl, rfl, fun z => (by rw [okN_nat hn, okN_nat hk] at z; rcases z with z | z <;> cases z), fun _ _ => ⟨rfl, fun z => (by rw [hp] at z; cases z), fun _ => ⟨n, k, p, rfl, rfl, rfl, q0, q⟩⟩⟩
theorem bigN {n : Nat} (h : n ≤ 10 ^ 60) : ((n : Int)).natAbs < 2 ^ 9000 := Nat.lt_of_le_of_lt (show ((n : Int)).natAbs ≤ 10 ^ 60 by omega) (by decide +kernel)
theorem hd__law_no_number (p : Addr) (xs ds : List D) (Qd : Rf → List D → Prop) (Ed : Addr → List D → Prop) (hn : ds.length + 1 = 1) (h : S__law_no_number xs ds Qd Ed) : rd__law_no_number (endB p Qd Ed) (.o p xs :: argsD 0 ds) := by
  unfold S__law_no_number at h
  split at h
  · obtain ⟨hh, q⟩ := h
    unfold rd__law_no_number
    walk_at "dl"
    refine ⟨by decide, by decide, ⟨by decide, by decide, by decide⟩, by decide, hh, by decide, by decide, fun x hx ys hy => ⟨ys, rfl, ?_⟩⟩
    simp only [List.mem_cons, List.not_mem_nil, or_false] at hx
    rcases hx with rfl | rfl | rfl | rfl | rfl | rfl | rfl | rfl <;> exact q _ _ (by decide) (by decide) hy
  · exact h.elim
theorem hd__law_prime (p : Addr) (xs ds : List D) (Qd : Rf → List D → Prop) (Ed : Addr → List D → Prop) (hn : ds.length + 1 = 2) (h : S__law_prime xs ds Qd Ed) : rd__law_prime (endB p Qd Ed) (.o p xs :: argsD 2 ds) := by
  unfold S__law_prime at h
  split at h
  · rename_i g
    obtain ⟨hh, q⟩ := h
    unfold rd__law_prime
    walk_at "dl"
    refine ⟨by decide, fun e => ⟨by decide, by decide, hh, by decide, by decide, fun x hx ys hy => ⟨ys, rfl, ?_⟩⟩, fun e => ⟨by decide, by decide, hh, by decide, by decide, fun x hx ys hy => ⟨ys, rfl, ?_⟩⟩⟩
    · simp only [List.mem_cons, List.not_mem_nil, or_false] at hx
      rcases hx with rfl | rfl | rfl | rfl | rfl | rfl | rfl | rfl | rfl | rfl | rfl | rfl | rfl
      · exact q 2 ys (.inl (by decide)) hy
      · exact q 3 ys (.inl (by decide)) hy
      · exact q 5 ys (.inl (by decide)) hy
      · exact q 7 ys (.inl (by decide)) hy
      · exact q 11 ys (.inl (by decide)) hy
      · exact q 13 ys (.inl (by decide)) hy
      · exact q 101 ys (.inl (by decide)) hy
      · exact q 997 ys (.inl (by decide)) hy
      · exact q 1999 ys (.inl (by decide)) hy
      · exact q 7919 ys (.inr ⟨e, by decide⟩) hy
      · exact q 65537 ys (.inr ⟨e, by decide⟩) hy
      · exact q 104729 ys (.inr ⟨e, by decide⟩) hy
      · exact q 999983 ys (.inr ⟨e, by decide⟩) hy
    · simp only [List.mem_cons, List.not_mem_nil, or_false] at hx
      rcases hx with rfl | rfl | rfl | rfl | rfl | rfl | rfl | rfl | rfl
      · exact q 2 ys (.inl (by decide)) hy
      · exact q 3 ys (.inl (by decide)) hy
      · exact q 5 ys (.inl (by decide)) hy
      · exact q 7 ys (.inl (by decide)) hy
      · exact q 11 ys (.inl (by decide)) hy
      · exact q 13 ys (.inl (by decide)) hy
      · exact q 101 ys (.inl (by decide)) hy
      · exact q 997 ys (.inl (by decide)) hy
      · exact q 1999 ys (.inl (by decide)) hy
  · exact h.elim
theorem hd__law_great (p : Addr) (xs ds : List D) (Qd : Rf → List D → Prop) (Ed : Addr → List D → Prop) (hn : ds.length + 1 = 1) (h : S__law_great xs ds Qd Ed) : rd__law_great (endB p Qd Ed) (.o p xs :: argsD 3 ds) := by
  unfold S__law_great at h
  split at h
  · obtain ⟨hh, q⟩ := h
    unfold rd__law_great
    walk_at "dl"
    have big : ∀ k : Int, 0 ≤ k → k ≤ 10 ^ 61 → k.natAbs < 2 ^ 9000 := fun k h0 hk => Nat.lt_of_lt_of_le (show k.natAbs < 2 ^ 210 by omega) (Nat.pow_le_pow_right (by decide) (by decide))
    have cast : ∀ (r : Int) (ys : List D), 0 ≤ r → r ≤ 10 ^ 60 → isHand ys → Qd (Rf.d (.int r)) ys := fun r ys h0 h1 hy => by
      obtain ⟨n, rfl⟩ := Int.eq_ofNat_of_zero_le h0
      exact q n ys (by omega) hy
    refine ⟨hh, by decide, big _ (by decide) (by decide), fun r ys r0 r5 hy => ⟨fun _ => ⟨hy, by decide, big _ (by decide) (by decide), fun r ys h0 h1 hy => ⟨ys, rfl, cast _ _ h0 (by omega) hy⟩⟩, fun _ => ⟨fun _ => ⟨⟨by decide, by decide, by decide⟩, hy, by decide, big _ (by decide) (by decide), fun r ys h0 h1 hy => ⟨ys, rfl, cast _ _ h0 (Int.le_of_lt_add_one h1) hy⟩⟩, fun _ => ⟨hy, by decide, big _ (by decide) (by decide), fun u zs u0 u1 hz => ?_⟩⟩⟩⟩
    walk_at "dl"
    refine ⟨by omega, by omega, ?_⟩
    refine for_rng (fun i δ => ∃ (w : Nat) (ws : List D) (a : Sl), δ = [.o p ws, .d (.int r), .d (.int (w : Int)), a] ∧ w ≤ 10 ^ 60 ∧ isHand ws) ⟨1, zs, _, rfl, by decide, hz⟩ ?_ ?_
    · rintro i δ hi ⟨w, ws, a, rfl, hw, hs⟩
      walk_at "dl"
      refine ⟨⟨by decide, by decide, by decide⟩, fun h => ⟨by decide, hs, by decide, by decide, fun x hx ys hy => ?_⟩, fun h => ⟨_, _, _, rfl, hw, hs⟩⟩
      have h : (w : Int) < 10 ^ 55 := h
      simp only [List.mem_cons, List.not_mem_nil, or_false] at hx
      have key : ∀ c : Nat, c ≤ 5 → fMul (.int (w : Int)) (.int (c : Int)) fun z => ∃ (w : Nat) (ws : List D) (a : Sl), [Sl.o p ys, .d (.int r), .d z, .d (.int (0 + (i : Int)))] = [Sl.o p ws, .d (.int r), .d (.int (w : Int)), a] ∧ w ≤ 10 ^ 60 ∧ isHand ws := fun c hc => by
        walk_at "dl"
        have : w * c ≤ 10 ^ 55 * 5 := Nat.mul_le_mul (by omega) hc
        exact ⟨mokr (by omega), w * c, ys, _, by rw [Int.natCast_mul], by omega, hy⟩
      rcases hx with rfl | rfl | rfl
      · exact key 2 (by decide)
      · exact key 3 (by decide)
      · exact key 5 (by decide)
    · rintro δ ⟨w, ws, a, rfl, hw, hs⟩
      walk_at "dl"
      refine ⟨fun _ => ⟨hs, by decide, big _ (by decide) (by decide), fun v ys v0 v3 hy => ⟨ys, rfl, cast _ _ ?_ ?_ hy⟩⟩, fun _ => ⟨⟨by decide, by decide, by decide⟩, ⟨by decide, by decide, by decide⟩, by decide, hs, by decide, by decide, fun x hx ys hy => ?_⟩⟩
      · split <;> omega
      · split <;> omega
      · simp only [List.mem_cons, List.not_mem_nil, or_false] at hx
        have key : ∀ c : Int, 1 ≤ c → c ≤ 10 ^ 20 → S__law_draw ys [.int c] (fun rv xs' => match rv with
              | Rf.d x => ∃ xs, Sl.o p xs' = Sl.o p xs ∧ Qd (Rf.d x) xs
              | Rf.f xs => ∃ xs_1, Sl.o p xs' = Sl.o p xs_1 ∧ Qd (Rf.d (D.lst xs)) xs_1) fun C xs' => ∃ xs, Sl.o p xs' = Sl.o p xs ∧ Ed C xs := fun c h1 h2 => by
          refine ⟨hy, h1, big _ (by omega) (by omega), fun v ys v0 v3 hy => ⟨ys, rfl, cast _ _ v0 (by omega) hy⟩⟩
        rcases hx with rfl | rfl | rfl
        · exact key _ (by decide) (by decide)
        · exact key _ (by decide) (by decide)
        · exact key _ (by decide) (by decide)
  · exact h.elim
end K36


set_option Elab.async false
set_option linter.all false
set_option maxRecDepth 100000
set_option maxHeartbeats 4000000
local macro_rules | `(tactic| walk_at "dl") => `(tactic| try simp (maxSteps := 2000000) only [DL.sSkip, DL.sSeq, DL.sCut, DL.sSet, DL.sSetF, DL.sPar, DL.sPar3, DL.sAsg, DL.sDrop, DL.sRet, DL.sRetF, DL.sRetO, DL.sRetN, DL.sBreak, DL.sCont, DL.sIf, DL.sRaise, DL.sAug, DL.dC, DL.dVar, DL.dBin, DL.aNil, DL.aCons, DL.dTup, DL.fLst, DL.dF, DL.dCB, DL.fCB, DL.dCall, DL.fCall, DL.dCallO, DL.fCallO, DL.rvD, DL.rvF, DL.dChain, DL.dB, DL.dTru, DL.dAndT, DL.dOrT, DL.dNotT, DL.dAnd, DL.dOr, DL.dNot, DL.dIfE, DL.dNeg, DL.dIxO, DL.sApp, DL.sSetIx, DL.dSl, DL.fSlL, DL.oNone, DL.oSome, DL.fCatL, DL.fRepL, DL.endA, DL.endB, DL.argsD, DL.Rv.out, DL.dPeek, DL.dPeekT, DL.frz, DL.gN, DL.gT, DL.gLs, DL.iSeq, DL.iR1, DL.iR2, DL.wipeD, DL.backD, DL.keepD, DL.fLc, DL.sFor, DL.dDic0, DL.dIsT, DL.fIfE, DL.fRevL, DL.iR3, DL.dPop, DL.dPopAt, DL.sRev, DL.sExt, DL.sAugIx, DL.sSetH, DL.sSetH1, DL.dHGet, DL.dHIn, DL.sHPut, DL.dHGetD, DL.dHLen, DL.fHKeys, DL.sFz, DL.sFzH, DL.fLk, DL.iK, DL.dKIn, DL.dKGet, DL.sLk, DL.sHCopy, DL.sHMove, DL.dTupRg, DL.dPeekR, DL.fPeek, DL.sForEO, DL.sForLO, DL.fRng3, DL.dTupRg1, DL.sSetSl, DL.sAllF, DL.fRng1, DL.fRng2, DL.dTupRev, DL.dRevSl, DL.fRevSl, DL.iRevD, DL.iEnumD, DL.iEnumA, DL.iZipD, DL.sMPar, DL.r_shl, DL.r_shr, DL.setMx, DL.mNil, DL.mD, DL.mN, DL.nF, DL.nH0, DL.nH1, DL.Ct.sl, DL.sParDF, DL.sParFD, DL.sParFF, DL.sSetDc, DL.isB_int_d, DL.isB_bool_d, DL.isB_tuple_d, DL.isB_list_d, DL.isB_str_d, DL.isB_dict_d, DL.noq_d, DL.r_any_l, DL.r_any_t2, DL.r_any_s, DL.r_some_l, DL.r_some_t2, DL.r_some_s, DL.r_draw, DL.isB_int_q, DL.isB_bool_q, DL.isB_tuple_q, DL.isB_list_q, DL.isB_str_q, DL.isB_dict_q, DL.r_is_dn, DL.r_isnt_dn, ite_true, ite_false, if_true, if_false, List.any_cons, List.any_nil, Bool.or_false, Bool.false_or, Bool.true_or, Bool.or_true,
 
  DL.r_add_i, DL.r_add_s, DL.r_add_t, DL.r_sub, DL.r_mul, DL.r_mod, DL.r_div, DL.r_pow, DL.r_lt, DL.r_le, DL.r_gt, DL.r_ge, DL.r_augp, DL.r_augm, DL.r_eq_nn, DL.r_ne_nn, DL.r_eq_nb, DL.r_ne_nb, DL.r_eq_ni, DL.r_ne_ni, DL.r_eq_ns, DL.r_ne_ns, DL.r_eq_bn, DL.r_ne_bn, DL.r_eq_bb, DL.r_ne_bb, DL.r_eq_in, DL.r_ne_in, DL.r_eq_ii, DL.r_ne_ii, DL.r_eq_is, DL.r_ne_is, DL.r_eq_sn, DL.r_ne_sn, DL.r_eq_si, DL.r_ne_si, DL.r_eq_ss, DL.r_ne_ss, DL.r_eq_ll, DL.r_ne_ll, DL.r_eq_lt, DL.r_ne_lt, DL.r_eq_ln, DL.r_ne_ln, DL.r_eq_li, DL.r_ne_li, DL.r_eq_ls, DL.r_ne_ls, DL.r_eq_lb, DL.r_ne_lb, DL.r_eq_nl2, DL.r_ne_nl2, DL.r_eq_il2, DL.r_ne_il2, DL.r_eq_sl2, DL.r_ne_sl2, DL.r_eq_bl2, DL.r_ne_bl2, DL.r_eq_tl, DL.r_ne_tl, DL.r_eq_tt, DL.r_ne_tt, DL.r_eq_tn, DL.r_ne_tn, DL.r_eq_ti, DL.r_ne_ti, DL.r_eq_ts, DL.r_ne_ts, DL.r_eq_tb, DL.r_ne_tb, DL.r_eq_nt2, DL.r_ne_nt2, DL.r_eq_it2, DL.r_ne_it2, DL.r_eq_st2, DL.r_ne_st2, DL.r_eq_bt2, DL.r_ne_bt2, DL.r_is_bb, DL.r_isnt_bb, DL.r_is_nn, DL.r_isnt_nn, DL.r_is_in, DL.r_isnt_in, DL.r_is_sn, DL.r_isnt_sn, DL.r_is_ln, DL.r_isnt_ln, DL.r_is_tn, DL.r_isnt_tn, DL.r_is_bn, DL.r_isnt_bn, DL.r_ix_l, DL.r_ix_t, DL.at0, DL.at1, DL.at2, DL.at3, DL.at4, DL.ixn10, DL.ixn20, DL.ixn21, DL.ixn30, DL.ixn31, DL.ixn32, DL.ixn40, DL.ixn41, DL.ixn42, DL.ixn43, DL.ixn50, DL.ixn51, DL.ixn52, DL.ixn53, DL.ixn54, DL.r_sl_t, DL.r_sl_l, DL.r_sl_q, DL.r_len_l, DL.r_len_t, DL.r_len_s, DL.r_abs, DL.r_int_i, DL.r_int_b, DL.r_max2, DL.r_min2, DL.r_sum, DL.r_any, DL.r_all, DL.r_tuple_l, DL.r_tuple_t, DL.r_list_l, DL.r_list_t, DL.r_isi, DL.noq_n, DL.noq_b, DL.noq_i, DL.noq_s, DL.noq_l, DL.noq_t, DL.noq_q, DL.tru_n, DL.tru_b, DL.tru_i, DL.tru_l, DL.tru_t, DL.isB_int_n, DL.isB_int_b, DL.isB_int_i, DL.isB_int_s, DL.isB_int_l, DL.isB_int_t, DL.isB_bool_n, DL.isB_bool_b, DL.isB_bool_i, DL.isB_bool_s, DL.isB_bool_l, DL.isB_bool_t, DL.isB_tuple_n, DL.isB_tuple_b, DL.isB_tuple_i, DL.isB_tuple_s, DL.isB_tuple_l, DL.isB_tuple_t, DL.isB_list_n, DL.isB_list_b, DL.isB_list_i, DL.isB_list_s, DL.isB_list_l, DL.isB_list_t, DL.isB_str_n, DL.isB_str_b, DL.isB_str_i, DL.isB_str_s, DL.isB_str_l, DL.isB_str_t, DL.isB_dict_n, DL.isB_dict_b, DL.isB_dict_i, DL.isB_dict_s, DL.isB_dict_l, DL.isB_dict_t,
  List.map_cons, List.map_nil, List.length_cons, List.length_nil, List.cons_append, List.nil_append, List.replicate_succ, List.replicate_zero, Nat.sub_self, Nat.add_one_sub_one, Nat.zero_add, Nat.reduceAdd, Nat.reduceSub, Int.cast_ofNat_Int, List.getElem?_cons_zero, List.getElem?_cons_succ, List.set_cons_zero, List.set_cons_succ, true_and, and_true, decide_eq_true_eq, decide_eq_false_iff_not, forall_const, false_implies, true_implies, reduceCtorEq, implies_true, Bool.true_eq_false, Bool.false_eq_true, Bool.not_true, Bool.not_false, Bool.not_eq_true', Bool.not_eq_false', bne_self_eq_false, beq_self_eq_true, Option.some.injEq, exists_eq_left', exists_eq_left, ne_eq, not_false_eq_true, not_true_eq_false])
namespace K36
open PySem PySem.Spec PyProof.Rows L2 DL
theorem rest_one {p m f : Nat} (hp : 2 ≤ p) (h : m ≠ 0) : f * (fact (m % p) % p) % p * ((if m / p % 2 = 1 then p - 1 else 1) * rr p (m / p)) % p = f * rr p m % p := by
  rw [rr_step hp h, Nat.mod_mul_mod]
  generalize (if m / p % 2 = 1 then p - 1 else 1) = c
  generalize rr p (m / p) = r
  rw [show f * (fact (m % p) % p) * (c * r) = f * (c * r) * (fact (m % p) % p) by simp only [Nat.mul_assoc, Nat.mul_left_comm, Nat.mul_comm], Nat.mul_mod_mod]
  simp only [Nat.mul_assoc, Nat.mul_left_comm, Nat.mul_comm]
theorem fact_succ (n : Nat) : fact (n + 1) = (n + 1) * fact n := rfl
theorem fact_end {n : Nat} : fact (n - 1 + 1) = fact n := by
  rcases n with _ | n
  · rfl
  · rfl
theorem hd_product_to (ds : List D) (Qd : Rf → Prop) (Ed : Addr → Prop) (hn : ds.length = 1) (h : S_product_to ds Qd Ed) : rd_product_to (endA Qd Ed) (argsD 3 ds) := by
  unfold S_product_to at h
  split at h
  · obtain ⟨n, rfl, n2, q⟩ := h
    unfold rd_product_to
    walk_at "dl"
    rw [show ((n : Int) + 1 - 2).toNat = n - 1 by omega]
    refine ⟨⟨by decide, by decide, by omega, by omega⟩, ?_⟩
    refine for_rng (fun i δ => ∃ a2, δ = [.d (.int (n : Int)), .d (.int (fact (i + 1) : Nat)), a2]) ⟨_, rfl⟩ ?_ ?_
    · rintro i δ hi ⟨a2, rfl⟩
      walk_at "dl"
      rw [fact_succ (i + 1), show (2 : Int) + (i : Int) = ((i + 1 + 1 : Nat) : Int) by omega, ← Int.natCast_mul, Nat.mul_comm]
      exact ⟨mokr (by omega), _, rfl⟩
    · rintro δ ⟨a2, rfl⟩
      walk_at "dl"
      rw [fact_end]
      exact q
  · exact h.elim
theorem hd__law_product (ds : List D) (Qd : Rf → Prop) (Ed : Addr → Prop) (hn : ds.length = 1) (h : S__law_product ds Qd Ed) : rd__law_product (endA Qd Ed) (argsD 3 ds) := by
  unfold S__law_product at h
  split at h
  · obtain ⟨n, rfl, n2, q⟩ := h
    unfold rd__law_product
    walk_at "dl"
    rw [show ((n : Int) + 1 - 2).toNat = n - 1 by omega]
    refine ⟨⟨by decide, by decide, by omega, by omega⟩, ?_⟩
    refine for_rng (fun i δ => ∃ a2, δ = [.d (.int (n : Int)), .d (.int (fact (i + 1) : Nat)), a2]) ⟨_, rfl⟩ ?_ ?_
    · rintro i δ hi ⟨a2, rfl⟩
      walk_at "dl"
      rw [fact_succ (i + 1), show (2 : Int) + (i : Int) = ((i + 1 + 1 : Nat) : Int) by omega, ← Int.natCast_mul, Nat.mul_comm]
      exact ⟨mokr (by omega), _, rfl⟩
    · rintro δ ⟨a2, rfl⟩
      walk_at "dl"
      rw [fact_end]
      exact q
  · exact h.elim
theorem hd_rest_of_product (cBadBase cBadNumber : Addr) (ds : List D) (Qd : Rf → Prop) (Ed : Addr → Prop) (hn : ds.length = 2) (h : S_rest_of_product cBadBase cBadNumber ds Qd Ed) : rd_rest_of_product cBadBase cBadNumber (endA Qd Ed) (argsD 4 ds) := by
  unfold S_rest_of_product at h
  split at h
  · rename_i x z
    obtain ⟨h1, h2, h3⟩ := h
    unfold rd_rest_of_product
    walk_at "dl"
    refine ⟨by decide, cn1 h1 h2 fun ex => ?_⟩
    obtain ⟨h4, h5, h6⟩ := h3 ex
    walk_at "dl"
    simp only [S_check_prime]
    refine ⟨h4, h5, fun ez => ?_⟩
    obtain ⟨n, p, rfl, rfl, p20, q⟩ := h6 ez
    obtain ⟨p', ep, p2, p6, pp⟩ := okPr_get ez
    cases ep
    walk_at "dl"
    refine ⟨fun z => absurd z (by omega), fun _ => ?_⟩
    unfold sWhile
    refine ⟨fun m δ => ∃ f : Nat, δ = [.d (.int (n : Int)), .d (.int (p : Int)), .d (.int (f : Int)), .d (.int (m : Int))] ∧ f ≤ p ∧ f * rr p m % p = rr p n % p, ⟨n, 1, rfl, by omega, by rw [Nat.one_mul]⟩, ?_⟩
    rintro m δ ⟨f, rfl, hf, hr⟩
    walk_at "dl"
    refine ⟨fun y => ?_, fun y => ?_⟩
    · simp only [S_product_to]
      rw [fmN]
      have hm := Nat.mod_lt m (show 0 < p by omega)
      refine ⟨by omega, m % p, rfl, by omega, ?_⟩
      walk_at "dl"
      have e2 : (((m / p : Nat) : Int)).fmod 2 = ((m / p % 2 : Nat) : Int) := fmN
      rw [fmN, fdN, e2, ← Int.natCast_mul, fmN]
      have st := rest_one (f := f) p2 (show m ≠ 0 by omega)
      have gl := Nat.mod_lt (f * (fact (m % p) % p)) (show 0 < p by omega)
      generalize f * (fact (m % p) % p) % p = g at *
      have xl := Nat.mod_lt (fact (m % p)) (show 0 < p by omega)
      refine ⟨by omega, mokr (by omega), by omega, fun δ => ∃ f2 : Nat, δ = [.d (.int (n : Int)), .d (.int (p : Int)), .d (.int (f2 : Int)), .d (.int (m : Int))] ∧ f2 ≤ p ∧ f2 * rr p (m / p) % p = rr p n % p, ⟨dok (by omega) (by omega), by omega, fun e => ⟨fun e2 => ⟨p - g, by rw [show (p : Int) - (g : Int) = ((p - g : Nat) : Int) by omega], by omega, ?_⟩, fun e2 => ⟨g, rfl, by omega, ?_⟩⟩, fun e => ⟨g, rfl, by omega, ?_⟩⟩, ?_⟩
      · rw [mul_same (rr p (m / p)) (neg_mod gl), Nat.mul_assoc, ← hr, ← st, if_pos (by omega)]
      · rw [← hr, ← st, if_pos (by omega), show p - 1 = 1 by omega, Nat.one_mul]
      · rw [← hr, ← st, if_neg (by omega), Nat.one_mul]
      · rintro δ ⟨f2, rfl, h7, h8⟩
        walk_at "dl"
        rw [fdN]
        exact ⟨dok (by omega) (by omega), m / p, Nat.div_lt_self (by omega) (by omega), f2, rfl, h7, h8⟩
    · obtain rfl : m = 0 := by omega
      rw [rr_zero, Nat.mul_one] at hr
      rw [fmN, hr]
      exact ⟨by omega, q⟩
  · exact h.elim
theorem hd__law_rest (ds : List D) (Qd : Rf → Prop) (Ed : Addr → Prop) (hn : ds.length = 2) (h : S__law_rest ds Qd Ed) : rd__law_rest (endA Qd Ed) (argsD 4 ds) := by
  unfold S__law_rest at h
  split at h
  · obtain ⟨n, p, rfl, rfl, p2, p20, q⟩ := h
    unfold rd__law_rest
    walk_at "dl"
    unfold sWhile
    refine ⟨fun m δ => ∃ (f : Nat) (a3 : Sl), δ = [.d (.int (m : Int)), .d (.int (p : Int)), .d (.int (f : Int)), a3] ∧ f < p ∧ f * rr p m % p = rr p n % p, ⟨n, 1, _, rfl, by omega, by rw [Nat.one_mul]⟩, ?_⟩
    rintro m δ ⟨f, a3, rfl, hf, hr⟩
    walk_at "dl"
    refine ⟨fun y => ?_, fun y => ?_⟩
    · have e2 : (((m / p : Nat) : Int)).fmod 2 = ((m / p % 2 : Nat) : Int) := fmN
      rw [fdN, e2, show (p : Int) - 1 = ((p - 1 : Nat) : Int) by omega, ← Int.natCast_mul, fmN]
      have st := rr_step p2 (show m ≠ 0 by omega)
      have fl := Nat.mod_lt (f * (p - 1)) (show 0 < p by omega)
      refine ⟨fun δ => ∃ f1 : Nat, δ = [.d (.int (m : Int)), .d (.int (p : Int)), .d (.int (f1 : Int)), a3] ∧ f1 < p ∧ f1 * (fact (m % p) * rr p (m / p)) % p = rr p n % p, ⟨dok (by omega) (by omega), by omega, fun e => ⟨mokr (by omega), by omega, f * (p - 1) % p, rfl, fl, ?_⟩, fun e => ⟨f, rfl, hf, ?_⟩⟩, ?_⟩
      · rw [← hr, st, if_pos (by omega), Nat.mod_mul_mod]
        simp only [Nat.mul_assoc, Nat.mul_left_comm, Nat.mul_comm]
      · rw [← hr, st, if_neg (by omega), Nat.mul_one]
      · rintro δ ⟨f1, rfl, h1, h2⟩
        walk_at "dl"
        rw [fmN]
        have ml := Nat.mod_lt m (show 0 < p by omega)
        rw [show (((m % p : Nat) : Int) + 1 - 2).toNat = m % p - 1 by omega]
        refine ⟨by omega, ⟨by decide, by decide, by omega, by omega⟩, ?_⟩
        refine for_rng (fun i δ => ∃ (g : Nat) (b3 : Sl), δ = [.d (.int (m : Int)), .d (.int (p : Int)), .d (.int (g : Int)), b3] ∧ g < p ∧ g % p = f1 * fact (i + 1) % p) ⟨f1, a3, rfl, h1, by rw [show fact (0 + 1) = 1 from rfl, Nat.mul_one]⟩ ?_ ?_
        · rintro i δ hi ⟨g, b3, rfl, h3, h4⟩
          walk_at "dl"
          rw [fact_succ (i + 1), show (2 : Int) + (i : Int) = ((i + 1 + 1 : Nat) : Int) by omega, ← Int.natCast_mul, fmN]
          refine ⟨mokr (by omega), by omega, _, _, rfl, Nat.mod_lt _ (by omega), ?_⟩
          rw [Nat.mod_mod, mul_same _ h4]
          simp only [Nat.mul_assoc, Nat.mul_left_comm, Nat.mul_comm]
        · rintro δ ⟨g, b3, rfl, h3, h4⟩
          walk_at "dl"
          rw [fact_end] at h4
          rw [fdN]
          refine ⟨dok (by omega) (by omega), m / p, Nat.div_lt_self (by omega) (by omega), g, _, rfl, h3, ?_⟩
          rw [mul_same _ h4, Nat.mul_assoc]
          exact h2
    · obtain rfl : m = 0 := by omega
      rw [rr_zero, Nat.mul_one] at hr
      rw [fmN, hr]
      exact ⟨by omega, q⟩
  · exact h.elim
theorem at5 {d : Nat} (h : d < 5) : atI [D.int 1, D.int 1, D.int 2, D.int 6, D.int 4] ((d : Nat) : Int) = some (.int (t5 d : Nat)) := by
  rcases d with _ | _ | _ | _ | _ | d
  · rfl
  · rfl
  · rfl
  · rfl
  · rfl
  · omega
theorem at4 {d : Nat} (h : d < 4) : atI [D.int 6, D.int 2, D.int 4, D.int 8] ((d : Nat) : Int) = some (.int ([6, 2, 4, 8].getD d 0 : Nat)) := by
  rcases d with _ | _ | _ | _ | d
  · rfl
  · rfl
  · rfl
  · rfl
  · omega
theorem t6_le {k : Nat} : t6 k ≤ 8 := by
  unfold t6
  have : k % 4 < 4 := Nat.mod_lt _ (by decide)
  generalize k % 4 = j at *
  rcases j with _ | _ | _ | _ | j
  · decide
  · decide
  · decide
  · decide
  · omega
theorem t5_le {d : Nat} : t5 d ≤ 6 := by
  unfold t5
  rcases d with _ | _ | _ | _ | _ | d
  · decide
  · decide
  · decide
  · decide
  · decide
  · show ([] : List Nat).getD d 0 ≤ 6
    rw [List.getD_nil]; decide
theorem hd__law_last (ds : List D) (Qd : Rf → Prop) (Ed : Addr → Prop) (hn : ds.length = 1) (h : S__law_last ds Qd Ed) : rd__law_last (endA Qd Ed) (argsD 4 ds) := by
  unfold S__law_last at h
  split at h
  · obtain ⟨n, rfl, q⟩ := h
    unfold rd__law_last
    walk_at "dl"
    unfold sWhile
    refine ⟨fun m δ => ∃ (f : Nat) (a2 a3 : Sl), δ = [.d (.int (m : Int)), .d (.int (f : Int)), a2, a3] ∧ f < 10 ∧ f * la m % 10 = la n % 10, ⟨n, 1, _, _, rfl, by omega, by rw [Nat.one_mul]⟩, ?_⟩
    rintro m δ ⟨f, a2, a3, rfl, hf, hr⟩
    walk_at "dl"
    refine ⟨fun y => ?_, fun y => ?_⟩
    · have st := la_step (show m ≠ 0 by omega)
      have d5 := Nat.mod_lt m (show 0 < 5 by decide)
      have d4 := Nat.mod_lt (m / 5) (show 0 < 4 by decide)
      have e5 : ((m : Int)).fmod 5 = ((m % 5 : Nat) : Int) := fmN
      have e0 : ((m : Int)).fdiv 5 = ((m / 5 : Nat) : Int) := fdN
      have e4 : (((m / 5 : Nat) : Int)).fmod 4 = ((m / 5 % 4 : Nat) : Int) := fmN
      rw [e5, e0, e4, at5 d5, at4 d4]
      have l6 : [6, 2, 4, 8].getD (m / 5 % 4) 0 ≤ 8 := t6_le (k := m / 5)
      have l5 : t5 (m % 5) ≤ 6 := t5_le
      have fin : ∀ x y : Nat, lg m = x * y → f * x * y % 10 * la (m / 5) % 10 = la n % 10 := fun x y e => by
        rw [← hr, st, e, Nat.mod_mul_mod]
        simp only [Nat.mul_assoc]
      refine ⟨dok (by decide) (by decide), fun e => ⟨sz_small (by decide), by decide, _, rfl, ?_⟩, fun e => ⟨mokr (by decide), sz_small (by decide), by decide, _, rfl, ?_⟩⟩
      · walk_at "dl"
        rw [← Int.natCast_mul, ← Int.natCast_mul, show ∀ x : Nat, ((x : Int)).fmod 10 = ((x % 10 : Nat) : Int) from fun x => fmN]
        refine ⟨mokr (by omega), sz_small (by decide), by decide, mokr (by omega), by decide, _, Nat.div_lt_self (by omega) (by decide), _, _, _, rfl, Nat.mod_lt _ (by decide), fin _ _ ?_⟩
        unfold lg
        rw [if_pos (by omega)]; rfl
      · walk_at "dl"
        rw [show (f : Int) * 1 = ((f * 1 : Nat) : Int) by omega, ← Int.natCast_mul, show ∀ x : Nat, ((x : Int)).fmod 10 = ((x % 10 : Nat) : Int) from fun x => fmN]
        refine ⟨mokr (by omega), by decide, _, Nat.div_lt_self (by omega) (by decide), _, _, _, rfl, Nat.mod_lt _ (by decide), fin _ _ ?_⟩
        unfold lg
        rw [if_neg (by omega)]
    · obtain rfl : m = 0 := by omega
      rw [la_zero, Nat.mul_one, Nat.mod_eq_of_lt hf] at hr
      rw [hr]
      exact q
  · exact h.elim
theorem crs00 {p c : Nat} (hp : 2 ≤ p) (hc : c ≤ 1) : (crs p 0 0 c).sum = 0 := by
  rcases Nat.eq_zero_or_pos c with rfl | h
  · rw [crs_zero]; rfl
  · obtain rfl : c = 1 := by omega
    rw [crs_step hp (by omega), Nat.zero_mod, Nat.zero_div, if_neg (by omega), crs_zero]; rfl
theorem hd__law_carry_number (ds : List D) (Qd : Rf → Prop) (Ed : Addr → Prop) (hn : ds.length = 3) (h : S__law_carry_number ds Qd Ed) : rd__law_carry_number (endA Qd Ed) (argsD 5 ds) := by
  unfold S__law_carry_number at h
  split at h
  · obtain ⟨k, m, p, rfl, rfl, rfl, p2, p6, q⟩ := h
    unfold rd__law_carry_number
    walk_at "dl"
    refine ⟨by decide, ?_⟩
    unfold sWhile
    refine ⟨fun s δ => ∃ a b t c : Nat, δ = [.d (.int (a : Int)), .d (.int (b : Int)), .d (.int (p : Int)), .d (.int (t : Int)), .d (.int (c : Int))] ∧ c ≤ 1 ∧ t + (crs p a b c).sum = (crs p k m 0).sum ∧ s = a + b, ⟨_, k, m, 0, 0, rfl, by omega, by omega, rfl⟩, ?_⟩
    rintro s δ ⟨a, b, t, c, rfl, hc, ht, rfl⟩
    walk_at "dl"
    rw [fmN, fmN, fdN, fdN]
    have cc : ((p : Int) ≤ ((a % p : Nat) : Int) + ((b % p : Nat) : Int) + (c : Int)) ↔ p ≤ a % p + b % p + c := by omega
    have go : ¬ (a = 0 ∧ b = 0) → ∃ m', m' < a + b ∧ ∃ a_2 b_1 t_1 c_1 : Nat, [Sl.d (D.int ((a / p : Nat) : Int)), Sl.d (D.int ((b / p : Nat) : Int)), Sl.d (D.int (p : Int)), Sl.d (D.int ((t : Int) + if (p : Int) ≤ ((a % p : Nat) : Int) + ((b % p : Nat) : Int) + (c : Int) then 1 else 0)), Sl.d (D.int (if (p : Int) ≤ ((a % p : Nat) : Int) + ((b % p : Nat) : Int) + (c : Int) then 1 else 0))] = [Sl.d (D.int (a_2 : Int)), Sl.d (D.int (b_1 : Int)), Sl.d (D.int (p : Int)), Sl.d (D.int (t_1 : Int)), Sl.d (D.int (c_1 : Int))] ∧ c_1 ≤ 1 ∧ t_1 + (crs p a_2 b_1 c_1).sum = (crs p k m 0).sum ∧ m' = a_2 + b_1 := fun nz => by
      have dn := n_down p2 nz
      rw [crs_step p2 (fun z => nz ⟨z.1, z.2.1⟩), List.sum_cons] at ht
      refine ⟨_, dn, a / p, b / p, t + (if p ≤ a % p + b % p + c then 1 else 0), if p ≤ a % p + b % p + c then 1 else 0, ?_, ?_, by omega, rfl⟩
      · by_cases z : p ≤ a % p + b % p + c
        · rw [if_pos z, if_pos (cc.mpr z)]; rfl
        · rw [if_neg z, if_neg fun y => z (cc.mp y)]; rfl
      · split <;> omega
    refine ⟨fun z => ⟨by omega, by omega, dok (by omega) (by omega), dok (by omega) (by omega), go (by omega)⟩, fun z => ⟨fun w => ⟨by omega, by omega, dok (by omega) (by omega), dok (by omega) (by omega), go (by omega)⟩, fun w => ?_⟩⟩
    obtain rfl : a = 0 := by omega
    obtain rfl : b = 0 := by omega
    rw [crs00 p2 hc, Nat.add_zero] at ht
    rw [ht]
    exact q
  · exact h.elim
end K36


set_option Elab.async false
set_option linter.all false
set_option maxRecDepth 100000
set_option maxHeartbeats 4000000
local macro_rules | `(tactic| walk_at "dl") => `(tactic| try simp (maxSteps := 2000000) only [DL.sSkip, DL.sSeq, DL.sCut, DL.sSet, DL.sSetF, DL.sPar, DL.sPar3, DL.sAsg, DL.sDrop, DL.sRet, DL.sRetF, DL.sRetO, DL.sRetN, DL.sBreak, DL.sCont, DL.sIf, DL.sRaise, DL.sAug, DL.dC, DL.dVar, DL.dBin, DL.aNil, DL.aCons, DL.dTup, DL.fLst, DL.dF, DL.dCB, DL.fCB, DL.dCall, DL.fCall, DL.dCallO, DL.fCallO, DL.rvD, DL.rvF, DL.dChain, DL.dB, DL.dTru, DL.dAndT, DL.dOrT, DL.dNotT, DL.dAnd, DL.dOr, DL.dNot, DL.dIfE, DL.dNeg, DL.dIxO, DL.sApp, DL.sSetIx, DL.dSl, DL.fSlL, DL.oNone, DL.oSome, DL.fCatL, DL.fRepL, DL.endA, DL.endB, DL.argsD, DL.Rv.out, DL.dPeek, DL.dPeekT, DL.frz, DL.gN, DL.gT, DL.gLs, DL.iSeq, DL.iR1, DL.iR2, DL.wipeD, DL.backD, DL.keepD, DL.fLc, DL.sFor, DL.dDic0, DL.dIsT, DL.fIfE, DL.fRevL, DL.iR3, DL.dPop, DL.dPopAt, DL.sRev, DL.sExt, DL.sAugIx, DL.sSetH, DL.sSetH1, DL.dHGet, DL.dHIn, DL.sHPut, DL.dHGetD, DL.dHLen, DL.fHKeys, DL.sFz, DL.sFzH, DL.fLk, DL.iK, DL.dKIn, DL.dKGet, DL.sLk, DL.sHCopy, DL.sHMove, DL.dTupRg, DL.dPeekR, DL.fPeek, DL.sForEO, DL.sForLO, DL.fRng3, DL.dTupRg1, DL.sSetSl, DL.sAllF, DL.dDicI, DL.fRng1, DL.fRng2, DL.dTupRev, DL.dRevSl, DL.fRevSl, DL.iRevD, DL.iEnumD, DL.iEnumA, DL.iZipD, DL.sMPar, DL.r_shl, DL.r_shr, DL.setMx, DL.mNil, DL.mD, DL.mN, DL.nF, DL.nH0, DL.nH1, DL.Ct.sl, DL.sParDF, DL.sParFD, DL.sParFF, DL.sSetDc, DL.isB_int_d, DL.isB_bool_d, DL.isB_tuple_d, DL.isB_list_d, DL.isB_str_d, DL.isB_dict_d, DL.noq_d, DL.r_any_l, DL.r_any_t2, DL.r_any_s, DL.r_some_l, DL.r_some_t2, DL.r_some_s, DL.r_draw, DL.isB_int_q, DL.isB_bool_q, DL.isB_tuple_q, DL.isB_list_q, DL.isB_str_q, DL.isB_dict_q, DL.r_is_dn, DL.r_isnt_dn, ite_true, ite_false, if_true, if_false, List.any_cons, List.any_nil, Bool.or_false, Bool.false_or, Bool.true_or, Bool.or_true,
 
  DL.r_add_i, DL.r_add_s, DL.r_add_t, DL.r_sub, DL.r_mul, DL.r_mod, DL.r_div, DL.r_pow, DL.r_lt, DL.r_le, DL.r_gt, DL.r_ge, DL.r_augp, DL.r_augm, DL.r_eq_nn, DL.r_ne_nn, DL.r_eq_nb, DL.r_ne_nb, DL.r_eq_ni, DL.r_ne_ni, DL.r_eq_ns, DL.r_ne_ns, DL.r_eq_bn, DL.r_ne_bn, DL.r_eq_bb, DL.r_ne_bb, DL.r_eq_in, DL.r_ne_in, DL.r_eq_ii, DL.r_ne_ii, DL.r_eq_is, DL.r_ne_is, DL.r_eq_sn, DL.r_ne_sn, DL.r_eq_si, DL.r_ne_si, DL.r_eq_ss, DL.r_ne_ss, DL.r_eq_ll, DL.r_ne_ll, DL.r_eq_lt, DL.r_ne_lt, DL.r_eq_ln, DL.r_ne_ln, DL.r_eq_li, DL.r_ne_li, DL.r_eq_ls, DL.r_ne_ls, DL.r_eq_lb, DL.r_ne_lb, DL.r_eq_nl2, DL.r_ne_nl2, DL.r_eq_il2, DL.r_ne_il2, DL.r_eq_sl2, DL.r_ne_sl2, DL.r_eq_bl2, DL.r_ne_bl2, DL.r_eq_tl, DL.r_ne_tl, DL.r_eq_tt, DL.r_ne_tt, DL.r_eq_tn, DL.r_ne_tn, DL.r_eq_ti, DL.r_ne_ti, DL.r_eq_ts, DL.r_ne_ts, DL.r_eq_tb, DL.r_ne_tb, DL.r_eq_nt2, DL.r_ne_nt2, DL.r_eq_it2, DL.r_ne_it2, DL.r_eq_st2, DL.r_ne_st2, DL.r_eq_bt2, DL.r_ne_bt2, DL.r_is_bb, DL.r_isnt_bb, DL.r_is_nn, DL.r_isnt_nn, DL.r_is_in, DL.r_isnt_in, DL.r_is_sn, DL.r_isnt_sn, DL.r_is_ln, DL.r_isnt_ln, DL.r_is_tn, DL.r_isnt_tn, DL.r_is_bn, DL.r_isnt_bn, DL.r_ix_l, DL.r_ix_t, DL.at0, DL.at1, DL.at2, DL.at3, DL.at4, DL.ixn10, DL.ixn20, DL.ixn21, DL.ixn30, DL.ixn31, DL.ixn32, DL.ixn40, DL.ixn41, DL.ixn42, DL.ixn43, DL.ixn50, DL.ixn51, DL.ixn52, DL.ixn53, DL.ixn54, DL.r_sl_t, DL.r_sl_l, DL.r_sl_q, DL.r_len_l, DL.r_len_t, DL.r_len_s, DL.r_abs, DL.r_int_i, DL.r_int_b, DL.r_max2, DL.r_min2, DL.r_sum, DL.r_any, DL.r_all, DL.r_tuple_l, DL.r_tuple_t, DL.r_list_l, DL.r_list_t, DL.r_isi, DL.noq_n, DL.noq_b, DL.noq_i, DL.noq_s, DL.noq_l, DL.noq_t, DL.noq_q, DL.tru_n, DL.tru_b, DL.tru_i, DL.tru_l, DL.tru_t, DL.isB_int_n, DL.isB_int_b, DL.isB_int_i, DL.isB_int_s, DL.isB_int_l, DL.isB_int_t, DL.isB_bool_n, DL.isB_bool_b, DL.isB_bool_i, DL.isB_bool_s, DL.isB_bool_l, DL.isB_bool_t, DL.isB_tuple_n, DL.isB_tuple_b, DL.isB_tuple_i, DL.isB_tuple_s, DL.isB_tuple_l, DL.isB_tuple_t, DL.isB_list_n, DL.isB_list_b, DL.isB_list_i, DL.isB_list_s, DL.isB_list_l, DL.isB_list_t, DL.isB_str_n, DL.isB_str_b, DL.isB_str_i, DL.isB_str_s, DL.isB_str_l, DL.isB_str_t, DL.isB_dict_n, DL.isB_dict_b, DL.isB_dict_i, DL.isB_dict_s, DL.isB_dict_l, DL.isB_dict_t,
  List.map_cons, List.map_nil, List.length_cons, List.length_nil, List.cons_append, List.nil_append, List.replicate_succ, List.replicate_zero, Nat.sub_self, Nat.add_one_sub_one, Nat.zero_add, Nat.reduceAdd, Nat.reduceSub, Int.cast_ofNat_Int, List.getElem?_cons_zero, List.getElem?_cons_succ, List.set_cons_zero, List.set_cons_succ, true_and, and_true, decide_eq_true_eq, decide_eq_false_iff_not, forall_const, false_implies, true_implies, reduceCtorEq, implies_true, Bool.true_eq_false, Bool.false_eq_true, Bool.not_true, Bool.not_false, Bool.not_eq_true', Bool.not_eq_false', bne_self_eq_false, beq_self_eq_true, Option.some.injEq, exists_eq_left', exists_eq_left, ne_eq, not_false_eq_true, not_true_eq_false])
namespace K36
open PySem PySem.Spec PyProof.Rows L2 DL
theorem rst_ask {cb cn : Addr} {n p : Nat} {Q : Rf → Prop} {E : Addr → Prop} (hn : n ≤ 10 ^ 60) (hp : okPr (.int (p : Nat)) = true) (p20 : p ≤ 2000) (q : Q (.d (.int (rr p n % p : Nat)))) : S_rest_of_product cb cn [.int (n : Nat), .int (p : Nat)] Q E :=
  ⟨rfl, fun z => (by rw [okN_nat hn] at z; cases z), fun _ => ⟨rfl, fun z => (by rw [hp] at z; cases z), fun _ => ⟨n, p, rfl, rfl, p20, q⟩⟩⟩
theorem lst_ask {cb cn : Addr} {n : Nat} {Q : Rf → Prop} {E : Addr → Prop} (hn : n ≤ 10 ^ 60) (q : Q (.d (.int (lastF n : Nat)))) : S_last_figure_of_product cb cn [.int (n : Nat)] Q E :=
  ⟨rfl, fun z => (by rw [okN_nat hn] at z; cases z), fun _ => ⟨n, rfl, q⟩⟩
theorem zer_ask {cb cn : Addr} {n b : Nat} {Q : Rf → Prop} {E : Addr → Prop} (hn : n ≤ 10 ^ 60) (b2 : 2 ≤ b) (b6 : b ≤ 1000000) (hz : zok b = true) (q : ∃ l, zfl 2000 b 2 = some l ∧ Q (.d (.int (mn (mnL n l) : Nat)))) : S_zeros_of_product cb cn [.int (n : Nat), .int (b : Nat)] Q E := by
  obtain ⟨l, e, q⟩ := q
  exact ⟨rfl, fun z => (by rw [okN_nat hn] at z; cases z), fun _ => ⟨rfl, fun z => (by rw [wi2 b2 b6] at z; cases z), fun _ => ⟨n, b, l, rfl, rfl, hz, e, q⟩⟩⟩
theorem ok5 : okPr (.int (5 : Nat)) = true := okPr_nat (by decide) (by decide) (by decide +kernel)
theorem ok2 : okPr (.int (2 : Nat)) = true := okPr_nat (by decide) (by decide) (by decide +kernel)
theorem t3v {k : Nat} : valV (mergeK [] (kvI [(0, 1), (1, 3), (2, 4), (3, 2)])) (Sum.inl ((k % 4 : Nat) : Int)) = some (V.int ((t3 k : Nat) : Int)) := by
  unfold t3
  have : k % 4 < 4 := Nat.mod_lt _ (by decide)
  generalize k % 4 = j at *
  rcases j with _ | _ | _ | _ | j
  · rfl
  · rfl
  · rfl
  · rfl
  · omega
theorem hd_last_figure_of_product (cBadBase cBadNumber : Addr) (ds : List D) (Qd : Rf → Prop) (Ed : Addr → Prop) (hn : ds.length = 1) (h : S_last_figure_of_product cBadBase cBadNumber ds Qd Ed) : rd_last_figure_of_product cBadBase cBadNumber (endA Qd Ed) (argsD 6 ds) := by
  unfold S_last_figure_of_product at h
  split at h
  · rename_i x
    obtain ⟨h1, h2, h3⟩ := h
    unfold rd_last_figure_of_product
    walk_at "dl"
    refine ⟨by decide, cn1 h1 h2 fun ex => ?_⟩
    obtain ⟨n, rfl, q⟩ := h3 ex
    obtain ⟨n', ea, n6⟩ := okN_get ex
    cases ea
    walk_at "dl"
    refine oip_ask (p := 5) n6 ok5 ?_
    walk_at "dl"
    refine oip_ask (p := 2) n6 ok2 ?_
    walk_at "dl"
    refine rst_ask (p := 5) n6 ok5 (by decide) ?_
    walk_at "dl"
    have e4 : ((ip 5 n : Nat) : Int).fmod 4 = ((ip 5 n % 4 : Nat) : Int) := fmN
    have e5 : ∀ x : Nat, ((x : Int)).fmod 5 = ((x % 5 : Nat) : Int) := fun x => fmN
    have e2 : ∀ x : Nat, ((x : Int)).fmod 2 = ((x % 2 : Nat) : Int) := fun x => fmN
    rw [e4]
    refine ⟨by decide, _, t3v, ?_⟩
    rw [← Int.natCast_mul, e5, e2]
    have hl : Qd (.d (.int ((lastF n : Nat) : Int))) := q
    unfold lastF at hl
    generalize hz : rr 5 n % 5 * t3 (ip 5 n) % 5 = z at *
    refine ⟨mokl (by omega), by decide, fun y => ⟨by decide, fun u => ?_, fun u => ?_⟩, fun y => ⟨by decide, fun u => ?_, fun u => ?_⟩⟩
    · rw [if_pos (by omega), if_pos (by omega)] at hl; exact hl
    · rw [if_pos (by omega), if_neg (by omega)] at hl; exact hl
    · rw [if_neg (by omega), if_pos (by omega)] at hl; exact hl
    · rw [if_neg (by omega), if_neg (by omega)] at hl; exact hl
  · exact h.elim
theorem mn_snoc {l : List Nat} {x : Nat} (h : l ≠ []) : mn (l ++ [x]) = min (mn l) x := by
  rcases l with _ | ⟨y, l⟩
  · exact absurd rfl h
  · show (l ++ [x]).foldl min y = min (l.foldl min y) x
    rw [List.foldl_append]; rfl
theorem zfl_in {f r p : Nat} {rs : List (Nat × Nat)} (h : zfl f r p = some rs) (hr : 1 < r) : ∃ f', f = f' + 1 ∧ ((0 < oi p r ∧ ∃ rs', rs = (p, oi p r) :: rs' ∧ zfl f' (str p r) (znx (str p r) p) = some rs') ∨ (¬ 0 < oi p r ∧ zfl f' (str p r) (znx (str p r) p) = some rs)) := by
  rcases f with _ | f
  · cases h
  · refine ⟨f, rfl, ?_⟩
    have e : zfl (f + 1) r p = if r ≤ 1 then some [] else if 0 < oi p r then (zfl f (str p r) (znx (str p r) p)).map fun l => (p, oi p r) :: l else zfl f (str p r) (znx (str p r) p) := rfl
    rw [e, if_neg (by omega)] at h
    by_cases g : 0 < oi p r
    · rw [if_pos g] at h
      obtain ⟨rs', h1, h2⟩ := Option.map_eq_some_iff.mp h
      exact .inl ⟨g, rs', h2.symm, h1⟩
    · rw [if_neg g] at h
      exact .inr ⟨g, h⟩
theorem zfl_end {f r p : Nat} {rs : List (Nat × Nat)} (h : zfl f r p = some rs) (hr : ¬ 1 < r) : rs = [] := by
  rcases f with _ | f
  · cases h
  · have e : zfl (f + 1) r p = if r ≤ 1 then some [] else if 0 < oi p r then (zfl f (str p r) (znx (str p r) p)).map fun l => (p, oi p r) :: l else zfl f (str p r) (znx (str p r) p) := rfl
    rw [e, if_pos (by omega)] at h
    cases h; rfl
theorem zok_get {b : Nat} {l : List (Nat × Nat)} (h : zok b = true) (e : zfl 2000 b 2 = some l) : l ≠ [] ∧ ∀ c ∈ l, 2 ≤ c.1 ∧ c.1 ≤ 1000000 ∧ 1 ≤ c.2 ∧ c.2 ≤ 20 ∧ okPr (.int (c.1 : Nat)) = true := by
  unfold zok at h
  rw [e] at h
  rcases l with _ | ⟨c, l⟩
  · cases h
  · refine ⟨by simp, fun d hd => ?_⟩
    have z := List.all_eq_true.mp h d hd
    simp only [Bool.and_eq_true, decide_eq_true_eq] at z
    exact ⟨z.1.1.1.1, z.1.1.1.2, z.1.1.2, z.1.2, okPr_nat z.1.1.1.1 z.1.1.1.2 z.2⟩
def mnD (n : Nat) : List (Nat × Nat) → D
  | [] => .non
  | c :: l => .int (mn (mnL n (c :: l)) : Nat)
theorem hd_zeros_of_product (cBadBase cBadNumber : Addr) (ds : List D) (Qd : Rf → Prop) (Ed : Addr → Prop) (hn : ds.length = 2) (h : S_zeros_of_product cBadBase cBadNumber ds Qd Ed) : rd_zeros_of_product cBadBase cBadNumber (endA Qd Ed) (argsD 7 ds) := by
  unfold S_zeros_of_product at h
  split at h
  · rename_i x y
    obtain ⟨h1, h2, h3⟩ := h
    unfold rd_zeros_of_product
    walk_at "dl"
    refine ⟨by decide, cn1 h1 h2 fun ex => ?_⟩
    obtain ⟨h4, h5, h6⟩ := h3 ex
    walk_at "dl"
    simp only [S_is_within]
    refine ⟨h4, ?_⟩
    walk_at "dl"
    refine ⟨h5, fun ey => ?_⟩
    obtain ⟨n, b, l, rfl, rfl, zk, zl, q⟩ := h6 ey
    obtain ⟨n', ea, n6⟩ := okN_get ex
    cases ea
    obtain ⟨b', eb, b2, b6⟩ := wnat (lo := 2) (hi := 1000000) ey
    cases eb
    walk_at "dl"
    unfold sWhile
    refine ⟨fun f δ => ∃ (r p : Nat) (dn rs : List (Nat × Nat)) (s5 s6 : Sl), δ = [.d (.int (n : Int)), .d (.int (b : Int)), .d (mnD n dn), .d (.int (r : Int)), .d (.int (p : Int)), s5, s6] ∧ 1 ≤ r ∧ r ≤ 1000000 ∧ 2 ≤ p ∧ p + f ≤ 1002002 ∧ f ≤ 2000 ∧ l = dn ++ rs ∧ zfl f r p = some rs, ⟨2000, b, 2, [], l, _, _, rfl, by omega, b6, by omega, by omega, by omega, rfl, zl⟩, ?_⟩
    rintro f δ ⟨r, p, dn, rs, s5, s6, rfl, r1, r6, p2, pf, f20, el, zf⟩
    walk_at "dl"
    obtain ⟨ln, lall⟩ := zok_get zk zl
    refine ⟨fun y => ?_, fun y => ?_⟩
    · obtain ⟨f', rfl, zc⟩ := zfl_in zf (show 1 < r by omega)
      refine ⟨fun m δ => ∃ t : Nat, δ = [.d (.int (n : Int)), .d (.int (b : Int)), .d (mnD n dn), .d (.int (m : Int)), .d (.int (p : Int)), .d (.int (t : Int)), s6] ∧ 1 ≤ m ∧ m ≤ r ∧ t + oi p m = oi p r ∧ str p m = str p r, ⟨r, 0, rfl, r1, Nat.le_refl _, by omega, rfl⟩, ?_⟩
      rintro m δ ⟨t, rfl, m1, mr, ht, hs⟩
      walk_at "dl"
      rw [fmN, fdN]
      refine ⟨by omega, fun u => ?_, fun u => ?_⟩
      · obtain ⟨y1, y2, y3⟩ := oi_yes p2 m1 (show m % p = 0 by omega)
        exact ⟨divM (by omega) (by omega), m / p, y2, t + 1, rfl, y1, by omega, by omega, by rw [← hs, str_yes p2 m1 (by omega)]⟩
      · rw [oi_no (show m % p ≠ 0 by omega)] at ht
        rw [str_no (show m % p ≠ 0 by omega)] at hs
        obtain rfl : t = oi p r := by omega
        rw [← hs] at zc
        refine ⟨fun δ => ∃ (dn2 rs2 : List (Nat × Nat)) (s6 : Sl), δ = [.d (.int (n : Int)), .d (.int (b : Int)), .d (mnD n dn2), .d (.int (m : Int)), .d (.int (p : Int)), .d (.int (oi p r : Nat)), s6] ∧ l = dn2 ++ rs2 ∧ zfl f' m (znx m p) = some rs2, ⟨fun v => ?_, fun v => ?_⟩, ?_⟩
        · rcases zc with ⟨v1, rs', rfl, zf'⟩ | ⟨v1, zf'⟩
          · have lp := lall (p, oi p r) (by rw [el]; simp)
            refine oip_ask n6 lp.2.2.2.2 ?_
            have lo : oi p r ≤ 20 := lp.2.2.2.1
            rcases dn with _ | ⟨c, dn⟩
            · unfold mnD
              walk_at "dl"
              rw [fdN]
              exact ⟨dok (by omega) (by omega), [(p, oi p r)], rs', _, rfl, el, zf'⟩
            · have e1 : mnD n (c :: dn) = .int (mn (mnL n (c :: dn)) : Nat) := rfl
              rw [e1]
              walk_at "dl"
              rw [fdN]
              have e2 : mnD n ((c :: dn) ++ [(p, oi p r)]) = .int (mn (mnL n ((c :: dn) ++ [(p, oi p r)])) : Nat) := rfl
              have e3 : mnL n ((c :: dn) ++ [(p, oi p r)]) = mnL n (c :: dn) ++ [ip p n / oi p r] := by
                unfold mnL; rw [List.map_append]; rfl
              rw [e3, mn_snoc (by unfold mnL; simp)] at e2
              have e4 : ∀ v w : Nat, (if (v : Int) < (w : Int) then (v : Int) else (w : Int)) = ((min w v : Nat) : Int) := fun v w => by
                by_cases z : v < w
                · rw [if_pos (by omega), Nat.min_eq_right (by omega)]
                · rw [if_neg (by omega), Nat.min_eq_left (by omega)]
              refine ⟨dok (by omega) (by omega), (c :: dn) ++ [(p, oi p r)], rs', .d (.int (ip p n / oi p r : Nat)), ?_, by rw [el, List.append_assoc]; rfl, zf'⟩
              rw [e2, e4]
          · omega
        · rcases zc with ⟨v1, rs', rfl, zf'⟩ | ⟨v1, zf'⟩
          · omega
          · exact ⟨dn, rs, s6, rfl, el, zf'⟩
        · rintro δ ⟨dn2, rs2, s6, rfl, el, zf'⟩
          walk_at "dl"
          have zz : ((p : Int) * (p : Int) ≤ (m : Int)) ↔ p * p ≤ m := by rw [← Int.natCast_mul]; omega
          unfold znx at zf'
          refine ⟨mulM (by omega) (by omega), fun g => ?_, fun g => ?_⟩
          · rw [if_pos (zz.mp g)] at zf'
            exact ⟨f', by omega, m, p + 1, dn2, rs2, _, _, rfl, m1, by omega, by omega, by omega, by omega, el, zf'⟩
          · rw [if_neg fun z => g (zz.mpr z)] at zf'
            rw [show (if (p : Int) + 1 > (m : Int) then (p : Int) + 1 else (m : Int)) = ((max m (p + 1) : Nat) : Int) by split <;> omega]
            refine ⟨f', by omega, m, max m (p + 1), dn2, rs2, _, _, rfl, m1, by omega, by omega, by omega, by omega, el, zf'⟩
    · rw [zfl_end zf (by omega), List.append_nil] at el
      subst el
      rcases l with _ | ⟨c, l⟩
      · exact absurd rfl ln
      · exact q
  · exact h.elim
theorem foldl_min : ∀ (l : List Nat) (x : Nat), (l.foldl min x = x ∨ l.foldl min x ∈ l) ∧ l.foldl min x ≤ x ∧ ∀ y ∈ l, l.foldl min x ≤ y
  | [], x => ⟨.inl rfl, Nat.le_refl _, fun _ h => nomatch h⟩
  | z :: l, x => by
    obtain ⟨h1, h2, h3⟩ := foldl_min l (min x z)
    rw [List.foldl_cons]
    refine ⟨?_, by omega, fun y hy => ?_⟩
    · rcases h1 with h1 | h1
      · rcases Nat.le_total x z with g | g
        · exact .inl (by rw [h1, Nat.min_eq_left g])
        · refine .inr ?_
          rw [h1, Nat.min_eq_right g]; exact List.mem_cons_self
      · exact .inr (List.mem_cons_of_mem _ h1)
    · rcases List.mem_cons.mp hy with rfl | hy
      · omega
      · exact h3 y hy
theorem mn_min {l : List Nat} (h : l ≠ []) : mn l ∈ l ∧ ∀ y ∈ l, mn l ≤ y := by
  rcases l with _ | ⟨x, l⟩
  · exact absurd rfl h
  · obtain ⟨h1, h2, h3⟩ := foldl_min l x
    refine ⟨?_, fun y hy => ?_⟩
    · rcases h1 with h1 | h1
      · show l.foldl min x ∈ x :: l
        rw [h1]; exact List.mem_cons_self
      · exact List.mem_cons_of_mem _ h1
    · rcases List.mem_cons.mp hy with rfl | hy
      · exact h2
      · exact h3 y hy
theorem gmin_nats {l : List Nat} {Q : D → Prop} (h : l ≠ []) (q : Q (.int (mn l : Nat))) : gMin [.lst (natsD l)] Q := by
  refine ⟨l.map fun i : Nat => (i : Int), natsD_ints l, ?_, fun m hm hl => ?_⟩
  · rw [List.length_map]; exact List.length_pos_iff.mpr h
  · obtain ⟨x, hx, rfl⟩ := List.mem_map.mp hm
    obtain ⟨h1, h2⟩ := mn_min h
    have e1 := hl _ (List.mem_map.mpr ⟨mn l, h1, rfl⟩)
    have e2 := h2 x hx
    rw [show (x : Int) = ((mn l : Nat) : Int) by omega]
    exact q
theorem str_bd {p : Nat} (hp : 2 ≤ p) : ∀ s r : Nat, r ≤ s → 1 ≤ r → 1 ≤ str p r
  | 0, r, h, h1 => by omega
  | s + 1, r, h, h1 => by
    by_cases z : r % p = 0
    · obtain ⟨y1, y2, _⟩ := oi_yes hp h1 z
      rw [str_yes hp h1 z]
      exact str_bd hp s (r / p) (by omega) y1
    · rw [str_no z]; exact h1
theorem hd__law_zeros (ds : List D) (Qd : Rf → Prop) (Ed : Addr → Prop) (hn : ds.length = 2) (h : S__law_zeros ds Qd Ed) : rd__law_zeros (endA Qd Ed) (argsD 7 ds) := by
  unfold S__law_zeros at h
  split at h
  · obtain ⟨n, b, l, rfl, rfl, b2, b6, zk, zl, q⟩ := h
    unfold rd__law_zeros
    walk_at "dl"
    refine ⟨by decide, fun pa hpa => ?_⟩
    unfold sWhile
    refine ⟨fun f δ => ∃ (r p : Nat) (dn rs : List (Nat × Nat)) (s5 s6 : Sl), δ = [.d (.int (n : Int)), .d (.int (b : Int)), .o pa (natsD (mnL n dn)), .d (.int (p : Int)), .d (.int (r : Int)), s5, s6] ∧ 1 ≤ r ∧ r ≤ 1000000 ∧ 2 ≤ p ∧ p + f ≤ 1002002 ∧ f ≤ 2000 ∧ dn.length + f ≤ 2000 ∧ l = dn ++ rs ∧ zfl f r p = some rs, ⟨2000, b, 2, [], l, _, _, rfl, by omega, b6, by omega, by omega, by omega, by decide, rfl, zl⟩, ?_⟩
    rintro f δ ⟨r, p, dn, rs, s5, s6, rfl, r1, r6, p2, pf, f20, dl, el, zf⟩
    walk_at "dl"
    obtain ⟨ln, lall⟩ := zok_get zk zl
    refine ⟨fun y => ?_, fun y => ?_⟩
    · obtain ⟨f', rfl, zc⟩ := zfl_in zf (show 1 < r by omega)
      simp only [S__law_often]
      refine ⟨r, p, rfl, rfl, r1, p2, by omega, ?_⟩
      walk_at "dl"
      have sb := str_bd p2 _ r (Nat.le_refl _) r1
      have sl : str p r ≤ r := Nat.div_le_self ..
      refine ⟨fun δ => ∃ (dn2 rs2 : List (Nat × Nat)) (s6 : Sl), δ = [.d (.int (n : Int)), .d (.int (b : Int)), .o pa (natsD (mnL n dn2)), .d (.int (p : Int)), .d (.int (str p r : Nat)), .d (.int (oi p r : Nat)), s6] ∧ l = dn2 ++ rs2 ∧ dn2.length ≤ dn.length + 1 ∧ zfl f' (str p r) (znx (str p r) p) = some rs2, ⟨fun v => ?_, fun v => ?_⟩, ?_⟩
      · rcases zc with ⟨v1, rs', rfl, zf'⟩ | ⟨v1, zf'⟩
        · have lp := lall (p, oi p r) (by rw [el]; simp)
          have lo : oi p r ≤ 20 := lp.2.2.2.1
          have lq : p ≤ 1000000 := lp.2.1
          simp only [S__law_in_product]
          refine ⟨n, p, rfl, rfl, p2, lq, ?_⟩
          walk_at "dl"
          rw [fdN, natsD_snoc]
          refine ⟨dok (by omega) (by omega), by rw [natsD_len]; unfold mnL; rw [List.length_map]; exact sz_lt (by omega), by omega, by omega, ?_⟩
          refine for_rng (fun i δ => ∃ s6 : Sl, δ = [.d (.int (n : Int)), .d (.int (b : Int)), .o pa (natsD (mnL n dn ++ [ip p n / oi p r])), .d (.int (p : Int)), .d (.int (r / p ^ i : Nat)), .d (.int (oi p r : Nat)), s6]) ⟨_, by rw [Nat.pow_zero, Nat.div_one]⟩ ?_ ?_
          · rintro i δ hi ⟨s6, rfl⟩
            walk_at "dl"
            rw [fdN]
            rw [Nat.div_div_eq_div_mul, ← Nat.pow_succ]
            exact ⟨dok (by omega) (by omega), _, rfl⟩
          · rintro δ ⟨s6, rfl⟩
            walk_at "dl"
            have e3 : mnL n (dn ++ [(p, oi p r)]) = mnL n dn ++ [ip p n / oi p r] := by
              unfold mnL; rw [List.map_append]; rfl
            rw [Int.toNat_natCast, ← e3]
            exact ⟨dn ++ [(p, oi p r)], rs', _, rfl, by rw [el, List.append_assoc]; rfl, by rw [List.length_append]; simp, zf'⟩
        · omega
      · rcases zc with ⟨v1, rs', rfl, zf'⟩ | ⟨v1, zf'⟩
        · omega
        · refine ⟨dn, rs, s6, ?_, el, by omega, zf'⟩
          have : str p r = r := by unfold str; rw [show oi p r = 0 by omega, Nat.pow_zero, Nat.div_one]
          rw [this]
      · rintro δ ⟨dn2, rs2, s6, rfl, el, dl2, zf'⟩
        walk_at "dl"
        generalize str p r = m at *
        have zz : ((p : Int) * (p : Int) ≤ (m : Int)) ↔ p * p ≤ m := by rw [← Int.natCast_mul]; omega
        unfold znx at zf'
        refine ⟨mulM (by omega) (by omega), fun g => ?_, fun g => ⟨fun g2 => ?_, fun g2 => ?_⟩⟩
        · rw [if_pos (zz.mp g)] at zf'
          exact ⟨f', by omega, m, p + 1, dn2, rs2, _, _, rfl, sb, by omega, by omega, by omega, by omega, by omega, el, zf'⟩
        · rw [if_neg fun z => g (zz.mpr z), show max m (p + 1) = p + 1 by omega] at zf'
          exact ⟨f', by omega, m, p + 1, dn2, rs2, _, _, rfl, sb, by omega, by omega, by omega, by omega, by omega, el, zf'⟩
        · rw [if_neg fun z => g (zz.mpr z)] at zf'
          rw [show (if (m : Int) > (p : Int) + 1 then (m : Int) else (p : Int) + 1) = ((max m (p + 1) : Nat) : Int) by split <;> omega]
          exact ⟨f', by omega, m, max m (p + 1), dn2, rs2, _, _, rfl, sb, by omega, by omega, by omega, by omega, by omega, el, zf'⟩
    · rw [zfl_end zf (by omega), List.append_nil] at el
      subst el
      refine gmin_nats (by unfold mnL; simpa using ln) ⟨rfl, q⟩
  · exact h.elim
end K36


set_option Elab.async false
set_option linter.all false
set_option maxRecDepth 100000
set_option maxHeartbeats 4000000
local macro_rules | `(tactic| walk_at "dl") => `(tactic| try simp (maxSteps := 2000000) only [DL.sSkip, DL.sSeq, DL.sCut, DL.sSet, DL.sSetF, DL.sPar, DL.sPar3, DL.sAsg, DL.sDrop, DL.sRet, DL.sRetF, DL.sRetO, DL.sRetN, DL.sBreak, DL.sCont, DL.sIf, DL.sRaise, DL.sAug, DL.dC, DL.dVar, DL.dBin, DL.aNil, DL.aCons, DL.dTup, DL.fLst, DL.dF, DL.dCB, DL.fCB, DL.dCall, DL.fCall, DL.dCallO, DL.fCallO, DL.rvD, DL.rvF, DL.dChain, DL.dB, DL.dTru, DL.dAndT, DL.dOrT, DL.dNotT, DL.dAnd, DL.dOr, DL.dNot, DL.dIfE, DL.dNeg, DL.dIxO, DL.sApp, DL.sSetIx, DL.dSl, DL.fSlL, DL.oNone, DL.oSome, DL.fCatL, DL.fRepL, DL.endA, DL.endB, DL.argsD, DL.Rv.out, DL.dPeek, DL.dPeekT, DL.frz, DL.gN, DL.gT, DL.gLs, DL.iSeq, DL.iR1, DL.iR2, DL.wipeD, DL.backD, DL.keepD, DL.fLc, DL.sFor, DL.dDic0, DL.dIsT, DL.fIfE, DL.fRevL, DL.iR3, DL.dPop, DL.dPopAt, DL.sRev, DL.sExt, DL.sAugIx, DL.sSetH, DL.sSetH1, DL.dHGet, DL.dHIn, DL.sHPut, DL.dHGetD, DL.dHLen, DL.fHKeys, DL.sFz, DL.sFzH, DL.fLk, DL.iK, DL.dKIn, DL.dKGet, DL.sLk, DL.sHCopy, DL.sHMove, DL.dTupRg, DL.dPeekR, DL.fPeek, DL.sForEO, DL.sForLO, DL.fRng3, DL.dTupRg1, DL.sSetSl, DL.sAllF, DL.dDicI, DL.fRng1, DL.fRng2, DL.dTupRev, DL.dRevSl, DL.fRevSl, DL.iRevD, DL.iEnumD, DL.iEnumA, DL.iZipD, DL.sMPar, DL.r_shl, DL.r_shr, DL.setMx, DL.mNil, DL.mD, DL.mN, DL.nF, DL.nH0, DL.nH1, DL.Ct.sl, DL.sParDF, DL.sParFD, DL.sParFF, DL.sSetDc, DL.isB_int_d, DL.isB_bool_d, DL.isB_tuple_d, DL.isB_list_d, DL.isB_str_d, DL.isB_dict_d, DL.noq_d, DL.r_any_l, DL.r_any_t2, DL.r_any_s, DL.r_some_l, DL.r_some_t2, DL.r_some_s, DL.r_draw, DL.isB_int_q, DL.isB_bool_q, DL.isB_tuple_q, DL.isB_list_q, DL.isB_str_q, DL.isB_dict_q, DL.r_is_dn, DL.r_isnt_dn, ite_true, ite_false, if_true, if_false, List.any_cons, List.any_nil, Bool.or_false, Bool.false_or, Bool.true_or, Bool.or_true,
 
  DL.r_add_i, DL.r_add_s, DL.r_add_t, DL.r_sub, DL.r_mul, DL.r_mod, DL.r_div, DL.r_pow, DL.r_lt, DL.r_le, DL.r_gt, DL.r_ge, DL.r_augp, DL.r_augm, DL.r_eq_nn, DL.r_ne_nn, DL.r_eq_nb, DL.r_ne_nb, DL.r_eq_ni, DL.r_ne_ni, DL.r_eq_ns, DL.r_ne_ns, DL.r_eq_bn, DL.r_ne_bn, DL.r_eq_bb, DL.r_ne_bb, DL.r_eq_in, DL.r_ne_in, DL.r_eq_ii, DL.r_ne_ii, DL.r_eq_is, DL.r_ne_is, DL.r_eq_sn, DL.r_ne_sn, DL.r_eq_si, DL.r_ne_si, DL.r_eq_ss, DL.r_ne_ss, DL.r_eq_ll, DL.r_ne_ll, DL.r_eq_lt, DL.r_ne_lt, DL.r_eq_ln, DL.r_ne_ln, DL.r_eq_li, DL.r_ne_li, DL.r_eq_ls, DL.r_ne_ls, DL.r_eq_lb, DL.r_ne_lb, DL.r_eq_nl2, DL.r_ne_nl2, DL.r_eq_il2, DL.r_ne_il2, DL.r_eq_sl2, DL.r_ne_sl2, DL.r_eq_bl2, DL.r_ne_bl2, DL.r_eq_tl, DL.r_ne_tl, DL.r_eq_tt, DL.r_ne_tt, DL.r_eq_tn, DL.r_ne_tn, DL.r_eq_ti, DL.r_ne_ti, DL.r_eq_ts, DL.r_ne_ts, DL.r_eq_tb, DL.r_ne_tb, DL.r_eq_nt2, DL.r_ne_nt2, DL.r_eq_it2, DL.r_ne_it2, DL.r_eq_st2, DL.r_ne_st2, DL.r_eq_bt2, DL.r_ne_bt2, DL.r_is_bb, DL.r_isnt_bb, DL.r_is_nn, DL.r_isnt_nn, DL.r_is_in, DL.r_isnt_in, DL.r_is_sn, DL.r_isnt_sn, DL.r_is_ln, DL.r_isnt_ln, DL.r_is_tn, DL.r_isnt_tn, DL.r_is_bn, DL.r_isnt_bn, DL.r_ix_l, DL.r_ix_t, DL.at0, DL.at1, DL.at2, DL.at3, DL.at4, DL.ixn10, DL.ixn20, DL.ixn21, DL.ixn30, DL.ixn31, DL.ixn32, DL.ixn40, DL.ixn41, DL.ixn42, DL.ixn43, DL.ixn50, DL.ixn51, DL.ixn52, DL.ixn53, DL.ixn54, DL.r_sl_t, DL.r_sl_l, DL.r_sl_q, DL.r_len_l, DL.r_len_t, DL.r_len_s, DL.r_abs, DL.r_int_i, DL.r_int_b, DL.r_max2, DL.r_min2, DL.r_sum, DL.r_any, DL.r_all, DL.r_tuple_l, DL.r_tuple_t, DL.r_list_l, DL.r_list_t, DL.r_isi, DL.noq_n, DL.noq_b, DL.noq_i, DL.noq_s, DL.noq_l, DL.noq_t, DL.noq_q, DL.tru_n, DL.tru_b, DL.tru_i, DL.tru_l, DL.tru_t, DL.isB_int_n, DL.isB_int_b, DL.isB_int_i, DL.isB_int_s, DL.isB_int_l, DL.isB_int_t, DL.isB_bool_n, DL.isB_bool_b, DL.isB_bool_i, DL.isB_bool_s, DL.isB_bool_l, DL.isB_bool_t, DL.isB_tuple_n, DL.isB_tuple_b, DL.isB_tuple_i, DL.isB_tuple_s, DL.isB_tuple_l, DL.isB_tuple_t, DL.isB_list_n, DL.isB_list_b, DL.isB_list_i, DL.isB_list_s, DL.isB_list_l, DL.isB_list_t, DL.isB_str_n, DL.isB_str_b, DL.isB_str_i, DL.isB_str_s, DL.isB_str_l, DL.isB_str_t, DL.isB_dict_n, DL.isB_dict_b, DL.isB_dict_i, DL.isB_dict_s, DL.isB_dict_l, DL.isB_dict_t,
  List.map_cons, List.map_nil, List.length_cons, List.length_nil, List.cons_append, List.nil_append, List.replicate_succ, List.replicate_zero, Nat.sub_self, Nat.add_one_sub_one, Nat.zero_add, Nat.reduceAdd, Nat.reduceSub, Int.cast_ofNat_Int, List.getElem?_cons_zero, List.getElem?_cons_succ, List.set_cons_zero, List.set_cons_succ, true_and, and_true, decide_eq_true_eq, decide_eq_false_iff_not, forall_const, false_implies, true_implies, reduceCtorEq, implies_true, Bool.true_eq_false, Bool.false_eq_true, Bool.not_true, Bool.not_false, Bool.not_eq_true', Bool.not_eq_false', bne_self_eq_false, beq_self_eq_true, Option.some.injEq, exists_eq_left', exists_eq_left, ne_eq, not_false_eq_true, not_true_eq_false])
namespace K36
open PySem PySem.Spec PyProof.Rows L2 DL
theorem ip_part {p a b : Nat} (hp : 2 ≤ p) : ip p (a + b) = ip p a + ip p b + (crs p a b 0).sum := by
  have h := crs_sum hp _ a b 0 (Nat.le_refl _) (by omega)
  rw [Nat.add_zero, Nat.add_zero] at h
  have h1 := legendre hp _ a (Nat.le_refl _)
  have h2 := legendre hp _ b (Nat.le_refl _)
  have h3 := legendre hp _ (a + b) (Nat.le_refl _)
  generalize (crs p a b 0).sum = S at *
  have e : ip p (a + b) * (p - 1) = (ip p a + ip p b + S) * (p - 1) := by
    rw [Nat.add_mul, Nat.add_mul]
    have : (p - 1) * S = S * (p - 1) := Nat.mul_comm ..
    omega
  exact Nat.eq_of_mul_eq_mul_right (by omega) e
theorem pr_get {p : Nat} (h : p ∈ P1 ∨ p ∈ P2) : isPr p = true := List.all_eq_true.mp pr_all p (List.mem_append.mpr h)
theorem p_bd {p : Nat} (h : p ∈ P1 ∨ p ∈ P2) : 2 ≤ p ∧ p ≤ 1000000 := by
  have z : ((P1 ++ P2).all fun p => decide (2 ≤ p) && decide (p ≤ 1000000)) = true := by decide
  have := List.all_eq_true.mp z p (List.mem_append.mpr h)
  rw [Bool.and_eq_true, decide_eq_true_eq, decide_eq_true_eq] at this
  exact this
theorem p1_bd {p : Nat} (h : p ∈ P1) : 2 ≤ p ∧ p ≤ 2000 := by
  have z : (P1.all fun p => decide (2 ≤ p) && decide (p ≤ 2000)) = true := by decide
  have := List.all_eq_true.mp z p h
  rw [Bool.and_eq_true, decide_eq_true_eq, decide_eq_true_eq] at this
  exact this
theorem zok_some {b : Nat} (h : zok b = true) : ∃ l, zfl 2000 b 2 = some l := by
  unfold zok at h
  cases e : zfl 2000 b 2 with
  | none => rw [e] at h; cases h
  | some l => exact ⟨l, rfl⟩
theorem zok_small {b : Nat} (h1 : 2 ≤ b) (h2 : b ≤ 1000) : zok b = true := by
  have := List.all_eq_true.mp zok_all (b - 2) (List.mem_range.mpr (by omega))
  rw [show 2 + (b - 2) = b by omega] at this
  exact this
theorem bigN1 {n : Nat} (h : n ≤ 10 ^ 60) : ((n : Int) + 1).natAbs < 2 ^ 9000 := Nat.lt_of_le_of_lt (show ((n : Int) + 1).natAbs ≤ 10 ^ 61 by omega) (by decide +kernel)
theorem isP2 {k : Nat} (a b : Int) : isP (k + 2) (.lst [.int a, .int b]) = true := isP_lst sz2 fun x hx => by
  simp only [List.mem_cons, List.not_mem_nil, or_false] at hx
  rcases hx with rfl | rfl <;> exact isP_int _
theorem hd__law_is_right (cBadBase cBadNumber : Addr) (p : Addr) (xs ds : List D) (Qd : Rf → List D → Prop) (Ed : Addr → List D → Prop) (hn : ds.length + 1 = 1) (h : S__law_is_right xs ds Qd Ed) : rd__law_is_right cBadBase cBadNumber (endB p Qd Ed) (.o p xs :: argsD 7 ds) := by
  unfold S__law_is_right at h
  split at h
  · obtain ⟨hh, q⟩ := h
    unfold rd__law_is_right
    walk_at "dl"
    simp only [S__law_great, S__law_prime]
    refine ⟨hh, fun n ys n6 hy => ⟨hy, fun k ys k6 hy => ⟨hy, fun pr ys hp hy => ?_⟩⟩⟩
    have hp2 : pr ∈ P1 ∨ pr ∈ P2 := hp.elim .inl fun z => .inr z.2
    obtain ⟨p2, p6⟩ := p_bd hp2
    have okp := okPr_nat p2 p6 (pr_get hp2)
    walk_at "dl"
    refine ⟨hy, by omega, bigN1 n6, fun r ys r0 r1 hy => ?_⟩
    walk_at "dl"
    refine ⟨by decide, hy, by decide, by decide, fun x hx ys hy => ?_⟩
    have hk : ∃ k : Nat, x = .int (k : Nat) ∧ k ≤ 10 ^ 60 := by
      simp only [List.mem_cons, List.not_mem_nil, or_false] at hx
      rcases hx with rfl | rfl | rfl
      · exact ⟨k, rfl, k6⟩
      · obtain ⟨r, rfl⟩ := Int.eq_ofNat_of_zero_le r0
        exact ⟨r, rfl, by omega⟩
      · exact ⟨n, rfl, n6⟩
    clear hx
    obtain ⟨k, rfl, k6⟩ := hk
    simp only [S__law_in_product]
    refine ⟨n, pr, rfl, rfl, p2, p6, ?_⟩
    walk_at "dl"
    refine oip_ask n6 okp ?_
    walk_at "dl"
    refine obf_ask n6 okp ?_
    walk_at "dl"
    refine ⟨by decide, by decide, is_ask rfl (isP2 _ _) ?_⟩
    walk_at "dl"
    rw [show (if (n : Int) > 1 then (n : Int) else 1) = ((max 1 n : Nat) : Int) by split <;> omega]
    refine oft_ask (by omega) (by omega) okp ?_
    walk_at "dl"
    rw [show (if (n : Int) > 1 then (n : Int) else 1) = ((max 1 n : Nat) : Int) by split <;> omega]
    refine ⟨max 1 n, pr, rfl, rfl, by omega, p2, by omega, ?_⟩
    walk_at "dl"
    refine is_ask rfl (isP_int _) ?_
    walk_at "dl"
    refine och_ask n6 k6 okp (fun lt => ?_) fun le => ?_
    · walk_at "dl"
      refine ⟨fun _ => ?_, fun z => absurd lt (by omega)⟩
      exact ⟨_, rfl, q _ hy⟩
    · have hi := ip_part (p := pr) p2 (a := k) (b := n - k)
      rw [show k + (n - k) = n by omega] at hi
      walk_at "dl"
      refine ⟨fun z => absurd le (by omega), fun _ => ?_⟩
      refine ⟨k, pr, rfl, rfl, p2, p6, ?_⟩
      walk_at "dl"
      refine ⟨n - k, pr, by omega, rfl, p2, p6, ?_⟩
      walk_at "dl"
      rw [show (n : Int) - (k : Int) = ((n - k : Nat) : Int) by omega, show ((ip pr n : Nat) : Int) - ((ip pr k : Nat) : Int) - ((ip pr (n - k) : Nat) : Int) = (((crs pr k (n - k) 0).sum : Nat) : Int) by omega]
      refine cnum_ask k6 (by omega) p2 p6 ?_
      walk_at "dl"
      refine ⟨by decide, by decide, is_ask rfl (isP2 _ _) ?_⟩
      walk_at "dl"
      refine ⟨k, n - k, pr, rfl, by omega, rfl, p2, p6, ?_⟩
      walk_at "dl"
      refine ⟨hy, by decide, by decide +kernel, fun r ys r0 r1 hy => ⟨⟨by decide, by decide, by decide⟩, by decide, hy, by decide, by decide, fun x hx ys hy => ?_⟩⟩
      obtain ⟨r, rfl⟩ := Int.eq_ofNat_of_zero_le r0
      have hb : ∃ b : Nat, x = .int (b : Nat) ∧ 2 ≤ b ∧ b ≤ 1000000 ∧ zok b = true := by
        simp only [List.mem_cons, List.not_mem_nil, or_false] at hx
        rcases hx with rfl | rfl | rfl | rfl | rfl | rfl | rfl | rfl | rfl | rfl | rfl
        · exact ⟨2, rfl, by decide, by decide, zok_small (by decide) (by decide)⟩
        · exact ⟨3, rfl, by decide, by decide, zok_small (by decide) (by decide)⟩
        · exact ⟨4, rfl, by decide, by decide, zok_small (by decide) (by decide)⟩
        · exact ⟨6, rfl, by decide, by decide, zok_small (by decide) (by decide)⟩
        · exact ⟨10, rfl, by decide, by decide, zok_small (by decide) (by decide)⟩
        · exact ⟨12, rfl, by decide, by decide, zok_small (by decide) (by decide)⟩
        · exact ⟨36, rfl, by decide, by decide, zok_small (by decide) (by decide)⟩
        · exact ⟨1000, rfl, by decide, by decide, zok_small (by decide) (by decide)⟩
        · exact ⟨2 + r, rfl, by omega, by omega, zok_small (by omega) (by omega)⟩
        · exact ⟨1000000, rfl, by decide, by decide, zok_two.1⟩
        · exact ⟨999983, rfl, by decide, by decide, zok_two.2⟩
      obtain ⟨b, rfl, b2, b6, zb⟩ := hb
      obtain ⟨l, el⟩ := zok_some zb
      walk_at "dl"
      refine zer_ask n6 b2 b6 zb ⟨l, el, ?_⟩
      walk_at "dl"
      refine ⟨n, b, l, rfl, rfl, b2, b6, zb, el, ?_⟩
      walk_at "dl"
      refine is_ask rfl (isP_int _) ?_
      exact ⟨_, rfl, q _ hy⟩
  · exact h.elim
end K36


set_option Elab.async false
set_option linter.all false
set_option maxRecDepth 100000
set_option maxHeartbeats 4000000
local macro_rules | `(tactic| walk_at "dl") => `(tactic| try simp (maxSteps := 2000000) only [DL.sSkip, DL.sSeq, DL.sCut, DL.sSet, DL.sSetF, DL.sPar, DL.sPar3, DL.sAsg, DL.sDrop, DL.sRet, DL.sRetF, DL.sRetO, DL.sRetN, DL.sBreak, DL.sCont, DL.sIf, DL.sRaise, DL.sAug, DL.dC, DL.dVar, DL.dBin, DL.aNil, DL.aCons, DL.dTup, DL.fLst, DL.dF, DL.dCB, DL.fCB, DL.dCall, DL.fCall, DL.dCallO, DL.fCallO, DL.rvD, DL.rvF, DL.dChain, DL.dB, DL.dTru, DL.dAndT, DL.dOrT, DL.dNotT, DL.dAnd, DL.dOr, DL.dNot, DL.dIfE, DL.dNeg, DL.dIxO, DL.sApp, DL.sSetIx, DL.dSl, DL.fSlL, DL.oNone, DL.oSome, DL.fCatL, DL.fRepL, DL.endA, DL.endB, DL.argsD, DL.Rv.out, DL.dPeek, DL.dPeekT, DL.frz, DL.gN, DL.gT, DL.gLs, DL.iSeq, DL.iR1, DL.iR2, DL.wipeD, DL.backD, DL.keepD, DL.fLc, DL.sFor, DL.dDic0, DL.dIsT, DL.fIfE, DL.fRevL, DL.iR3, DL.dPop, DL.dPopAt, DL.sRev, DL.sExt, DL.sAugIx, DL.sSetH, DL.sSetH1, DL.dHGet, DL.dHIn, DL.sHPut, DL.dHGetD, DL.dHLen, DL.fHKeys, DL.sFz, DL.sFzH, DL.fLk, DL.iK, DL.dKIn, DL.dKGet, DL.sLk, DL.sHCopy, DL.sHMove, DL.dTupRg, DL.dPeekR, DL.fPeek, DL.sForEO, DL.sForLO, DL.fRng3, DL.dTupRg1, DL.sSetSl, DL.sAllF, DL.dDicI, DL.fRng1, DL.fRng2, DL.dTupRev, DL.dRevSl, DL.fRevSl, DL.iRevD, DL.iEnumD, DL.iEnumA, DL.iZipD, DL.sMPar, DL.r_shl, DL.r_shr, DL.setMx, DL.mNil, DL.mD, DL.mN, DL.nF, DL.nH0, DL.nH1, DL.Ct.sl, DL.sParDF, DL.sParFD, DL.sParFF, DL.sSetDc, DL.isB_int_d, DL.isB_bool_d, DL.isB_tuple_d, DL.isB_list_d, DL.isB_str_d, DL.isB_dict_d, DL.noq_d, DL.r_any_l, DL.r_any_t2, DL.r_any_s, DL.r_some_l, DL.r_some_t2, DL.r_some_s, DL.r_draw, DL.isB_int_q, DL.isB_bool_q, DL.isB_tuple_q, DL.isB_list_q, DL.isB_str_q, DL.isB_dict_q, DL.r_is_dn, DL.r_isnt_dn, ite_true, ite_false, if_true, if_false, List.any_cons, List.any_nil, Bool.or_false, Bool.false_or, Bool.true_or, Bool.or_true,
 
  DL.r_add_i, DL.r_add_s, DL.r_add_t, DL.r_sub, DL.r_mul, DL.r_mod, DL.r_div, DL.r_pow, DL.r_lt, DL.r_le, DL.r_gt, DL.r_ge, DL.r_augp, DL.r_augm, DL.r_eq_nn, DL.r_ne_nn, DL.r_eq_nb, DL.r_ne_nb, DL.r_eq_ni, DL.r_ne_ni, DL.r_eq_ns, DL.r_ne_ns, DL.r_eq_bn, DL.r_ne_bn, DL.r_eq_bb, DL.r_ne_bb, DL.r_eq_in, DL.r_ne_in, DL.r_eq_ii, DL.r_ne_ii, DL.r_eq_is, DL.r_ne_is, DL.r_eq_sn, DL.r_ne_sn, DL.r_eq_si, DL.r_ne_si, DL.r_eq_ss, DL.r_ne_ss, DL.r_eq_ll, DL.r_ne_ll, DL.r_eq_lt, DL.r_ne_lt, DL.r_eq_ln, DL.r_ne_ln, DL.r_eq_li, DL.r_ne_li, DL.r_eq_ls, DL.r_ne_ls, DL.r_eq_lb, DL.r_ne_lb, DL.r_eq_nl2, DL.r_ne_nl2, DL.r_eq_il2, DL.r_ne_il2, DL.r_eq_sl2, DL.r_ne_sl2, DL.r_eq_bl2, DL.r_ne_bl2, DL.r_eq_tl, DL.r_ne_tl, DL.r_eq_tt, DL.r_ne_tt, DL.r_eq_tn, DL.r_ne_tn, DL.r_eq_ti, DL.r_ne_ti, DL.r_eq_ts, DL.r_ne_ts, DL.r_eq_tb, DL.r_ne_tb, DL.r_eq_nt2, DL.r_ne_nt2, DL.r_eq_it2, DL.r_ne_it2, DL.r_eq_st2, DL.r_ne_st2, DL.r_eq_bt2, DL.r_ne_bt2, DL.r_is_bb, DL.r_isnt_bb, DL.r_is_nn, DL.r_isnt_nn, DL.r_is_in, DL.r_isnt_in, DL.r_is_sn, DL.r_isnt_sn, DL.r_is_ln, DL.r_isnt_ln, DL.r_is_tn, DL.r_isnt_tn, DL.r_is_bn, DL.r_isnt_bn, DL.r_ix_l, DL.r_ix_t, DL.at0, DL.at1, DL.at2, DL.at3, DL.at4, DL.ixn10, DL.ixn20, DL.ixn21, DL.ixn30, DL.ixn31, DL.ixn32, DL.ixn40, DL.ixn41, DL.ixn42, DL.ixn43, DL.ixn50, DL.ixn51, DL.ixn52, DL.ixn53, DL.ixn54, DL.r_sl_t, DL.r_sl_l, DL.r_sl_q, DL.r_len_l, DL.r_len_t, DL.r_len_s, DL.r_abs, DL.r_int_i, DL.r_int_b, DL.r_max2, DL.r_min2, DL.r_sum, DL.r_any, DL.r_all, DL.r_tuple_l, DL.r_tuple_t, DL.r_list_l, DL.r_list_t, DL.r_isi, DL.noq_n, DL.noq_b, DL.noq_i, DL.noq_s, DL.noq_l, DL.noq_t, DL.noq_q, DL.tru_n, DL.tru_b, DL.tru_i, DL.tru_l, DL.tru_t, DL.isB_int_n, DL.isB_int_b, DL.isB_int_i, DL.isB_int_s, DL.isB_int_l, DL.isB_int_t, DL.isB_bool_n, DL.isB_bool_b, DL.isB_bool_i, DL.isB_bool_s, DL.isB_bool_l, DL.isB_bool_t, DL.isB_tuple_n, DL.isB_tuple_b, DL.isB_tuple_i, DL.isB_tuple_s, DL.isB_tuple_l, DL.isB_tuple_t, DL.isB_list_n, DL.isB_list_b, DL.isB_list_i, DL.isB_list_s, DL.isB_list_l, DL.isB_list_t, DL.isB_str_n, DL.isB_str_b, DL.isB_str_i, DL.isB_str_s, DL.isB_str_l, DL.isB_str_t, DL.isB_dict_n, DL.isB_dict_b, DL.isB_dict_i, DL.isB_dict_s, DL.isB_dict_l, DL.isB_dict_t,
  List.map_cons, List.map_nil, List.length_cons, List.length_nil, List.cons_append, List.nil_append, List.replicate_succ, List.replicate_zero, Nat.sub_self, Nat.add_one_sub_one, Nat.zero_add, Nat.reduceAdd, Nat.reduceSub, Int.cast_ofNat_Int, List.getElem?_cons_zero, List.getElem?_cons_succ, List.set_cons_zero, List.set_cons_succ, true_and, and_true, decide_eq_true_eq, decide_eq_false_iff_not, forall_const, false_implies, true_implies, reduceCtorEq, implies_true, Bool.true_eq_false, Bool.false_eq_true, Bool.not_true, Bool.not_false, Bool.not_eq_true', Bool.not_eq_false', bne_self_eq_false, beq_self_eq_true, Option.some.injEq, exists_eq_left', exists_eq_left, ne_eq, not_false_eq_true, not_true_eq_false])
namespace K36
open PySem PySem.Spec PyProof.Rows L2 DL
theorem fact_pos : ∀ n, 1 ≤ fact n
  | 0 => Nat.le_refl _
  | n + 1 => Nat.mul_pos (by omega) (fact_pos n)
theorem q_get {n p : Nat} (hn : n < 60) (hp : p ∈ Q6) : rr p n % p = str p (fact n) % p ∧ oi p (fact n) = ip p n ∧ lastF n = str 10 (fact n) % 10 := by
  have z := List.all_eq_true.mp q_all n (List.mem_range.mpr hn)
  rw [Bool.and_eq_true, decide_eq_true_eq] at z
  have z1 := List.all_eq_true.mp z.1 p hp
  rw [Bool.and_eq_true, decide_eq_true_eq, decide_eq_true_eq] at z1
  exact ⟨z1.1, z1.2, z.2⟩
theorem isP3 {k : Nat} (a b c : Int) : isP (k + 2) (.lst [.int a, .int b, .int c]) = true := isP_lst (show 3 ≤ sizeLine by decide) fun x hx => by
  simp only [List.mem_cons, List.not_mem_nil, or_false] at hx
  rcases hx with rfl | rfl | rfl <;> exact isP_int _
theorem hd__law_are_rests_right (cBadBase cBadNumber : Addr) (p : Addr) (xs ds : List D) (Qd : Rf → List D → Prop) (Ed : Addr → List D → Prop) (hn : ds.length + 1 = 1) (h : S__law_are_rests_right xs ds Qd Ed) : rd__law_are_rests_right cBadBase cBadNumber (endB p Qd Ed) (.o p xs :: argsD 7 ds) := by
  unfold S__law_are_rests_right at h
  split at h
  · obtain ⟨hh, q⟩ := h
    unfold rd__law_are_rests_right
    walk_at "dl"
    simp only [S__law_great, S__law_prime]
    refine ⟨hh, fun n ys n6 hy => ⟨hy, fun pr ys hp hy => ?_⟩⟩
    have hp1 : pr ∈ P1 := hp.elim id fun z => by cases z.1
    obtain ⟨p2, p20⟩ := p1_bd hp1
    have okp := okPr_nat p2 (by omega) (pr_get (.inl hp1))
    walk_at "dl"
    refine rst_ask n6 okp p20 ?_
    walk_at "dl"
    refine lst_ask n6 ?_
    walk_at "dl"
    refine ⟨by decide, n, pr, rfl, rfl, p2, p20, ?_⟩
    walk_at "dl"
    refine ⟨n, rfl, ?_⟩
    walk_at "dl"
    refine ⟨by decide, is_ask (by rw [last_eq]) (isP2 _ _) ?_⟩
    walk_at "dl"
    refine ⟨hy, by decide, by decide +kernel, fun r ys r0 r6 hy => ⟨by decide, hy, by decide, by decide, fun x hx ys hy => ?_⟩⟩
    obtain ⟨s, rfl⟩ := Int.eq_ofNat_of_zero_le r0
    have hq : ∃ b : Nat, x = .int (b : Nat) ∧ b ∈ Q6 ∧ 2 ≤ b ∧ b ≤ 53 ∧ okPr (.int (b : Nat)) = true := by
      simp only [List.mem_cons, List.not_mem_nil, or_false] at hx
      rcases hx with rfl | rfl | rfl | rfl | rfl | rfl
      · exact ⟨2, rfl, by decide, by decide, by decide, by decide +kernel⟩
      · exact ⟨3, rfl, by decide, by decide, by decide, by decide +kernel⟩
      · exact ⟨5, rfl, by decide, by decide, by decide, by decide +kernel⟩
      · exact ⟨7, rfl, by decide, by decide, by decide, by decide +kernel⟩
      · exact ⟨11, rfl, by decide, by decide, by decide, by decide +kernel⟩
      · exact ⟨53, rfl, by decide, by decide, by decide, by decide +kernel⟩
    obtain ⟨b, rfl, bq, b2, b53, okb⟩ := hq
    obtain ⟨q1, q2, q3⟩ := q_get (show s < 60 by omega) bq
    have fp := fact_pos s
    walk_at "dl"
    refine ⟨s, rfl, by omega, ?_⟩
    walk_at "dl"
    unfold sWhile
    refine ⟨fun m δ => ∃ s3 : Sl, δ = [.o p ys, .d (.int (n : Int)), .d (.int (b : Int)), s3, .d (.int (s : Int)), .d (.int (fact s : Nat)), .d (.int (m : Nat)), .d (.int (fact s : Nat))] ∧ 1 ≤ m ∧ str b m = str b (fact s), ⟨fact s, _, rfl, fp, rfl⟩, ?_⟩
    rintro m δ ⟨s3, rfl, m1, hs⟩
    walk_at "dl"
    rw [fmN, fdN]
    refine ⟨by omega, fun u => ?_, fun u => ?_⟩
    · obtain ⟨y1, y2, y3⟩ := oi_yes b2 m1 (show m % b = 0 by omega)
      exact ⟨dok (by omega) (by omega), m / b, y2, s3, rfl, y1, by rw [← hs, str_yes b2 m1 (by omega)]⟩
    rw [str_no (show m % b ≠ 0 by omega)] at hs
    subst hs
    refine ⟨fun m δ => ∃ s3 : Sl, δ = [.o p ys, .d (.int (n : Int)), .d (.int (b : Int)), s3, .d (.int (s : Int)), .d (.int (fact s : Nat)), .d (.int (str b (fact s) : Nat)), .d (.int (m : Nat))] ∧ 1 ≤ m ∧ str 10 m = str 10 (fact s), ⟨fact s, _, rfl, fp, rfl⟩, ?_⟩
    rintro m δ ⟨s3, rfl, m1, hs⟩
    walk_at "dl"
    have e10 : ∀ x : Nat, ((x : Int)).fmod 10 = ((x % 10 : Nat) : Int) := fun x => fmN
    have d10 : ((m : Int)).fdiv 10 = ((m / 10 : Nat) : Int) := fdN
    rw [e10, d10]
    refine ⟨by decide, fun u => ?_, fun u => ?_⟩
    · obtain ⟨y1, y2, y3⟩ := oi_yes (p := 10) (by decide) m1 (show m % 10 = 0 by omega)
      exact ⟨dok (by decide) (by decide), m / 10, y2, s3, rfl, y1, by rw [← hs, str_yes (p := 10) (by decide) m1 (by omega)]⟩
    rw [str_no (show m % 10 ≠ 0 by omega)] at hs
    subst hs
    refine rst_ask (by omega) okb (by omega) ?_
    walk_at "dl"
    refine lst_ask (by omega) ?_
    walk_at "dl"
    refine oip_ask (by omega) okb ?_
    walk_at "dl"
    rw [fmN, e10]
    refine ⟨by decide, by omega, by decide, fact s, b, rfl, rfl, fp, b2, by omega, ?_⟩
    walk_at "dl"
    refine ⟨by decide, is_ask (by rw [q1, q2, q3]) (isP3 _ _ _) ?_⟩
    exact ⟨_, rfl, q _ hy⟩
  · exact h.elim
end K36


set_option Elab.async false
set_option linter.all false
set_option maxRecDepth 100000
set_option maxHeartbeats 4000000
local macro_rules | `(tactic| walk_at "dl") => `(tactic| try simp (maxSteps := 2000000) only [DL.sSkip, DL.sSeq, DL.sCut, DL.sSet, DL.sSetF, DL.sPar, DL.sPar3, DL.sAsg, DL.sDrop, DL.sRet, DL.sRetF, DL.sRetO, DL.sRetN, DL.sBreak, DL.sCont, DL.sIf, DL.sRaise, DL.sAug, DL.dC, DL.dVar, DL.dBin, DL.aNil, DL.aCons, DL.dTup, DL.fLst, DL.dF, DL.dCB, DL.fCB, DL.dCall, DL.fCall, DL.dCallO, DL.fCallO, DL.rvD, DL.rvF, DL.dChain, DL.dB, DL.dTru, DL.dAndT, DL.dOrT, DL.dNotT, DL.dAnd, DL.dOr, DL.dNot, DL.dIfE, DL.dNeg, DL.dIxO, DL.sApp, DL.sSetIx, DL.dSl, DL.fSlL, DL.oNone, DL.oSome, DL.fCatL, DL.fRepL, DL.endA, DL.endB, DL.argsD, DL.Rv.out, DL.dPeek, DL.dPeekT, DL.frz, DL.gN, DL.gT, DL.gLs, DL.iSeq, DL.iR1, DL.iR2, DL.wipeD, DL.backD, DL.keepD, DL.fLc, DL.sFor, DL.dDic0, DL.dIsT, DL.fIfE, DL.fRevL, DL.iR3, DL.dPop, DL.dPopAt, DL.sRev, DL.sExt, DL.sAugIx, DL.sSetH, DL.sSetH1, DL.dHGet, DL.dHIn, DL.sHPut, DL.dHGetD, DL.dHLen, DL.fHKeys, DL.sFz, DL.sFzH, DL.fLk, DL.iK, DL.dKIn, DL.dKGet, DL.sLk, DL.sHCopy, DL.sHMove, DL.dTupRg, DL.dPeekR, DL.fPeek, DL.sForEO, DL.sForLO, DL.fRng3, DL.dTupRg1, DL.sSetSl, DL.sAllF, DL.dDicI, DL.fRng1, DL.fRng2, DL.dTupRev, DL.dRevSl, DL.fRevSl, DL.iRevD, DL.iEnumD, DL.iEnumA, DL.iZipD, DL.sMPar, DL.r_shl, DL.r_shr, DL.setMx, DL.mNil, DL.mD, DL.mN, DL.nF, DL.nH0, DL.nH1, DL.Ct.sl, DL.sParDF, DL.sParFD, DL.sParFF, DL.sSetDc, DL.isB_int_d, DL.isB_bool_d, DL.isB_tuple_d, DL.isB_list_d, DL.isB_str_d, DL.isB_dict_d, DL.noq_d, DL.r_any_l, DL.r_any_t2, DL.r_any_s, DL.r_some_l, DL.r_some_t2, DL.r_some_s, DL.r_draw, DL.isB_int_q, DL.isB_bool_q, DL.isB_tuple_q, DL.isB_list_q, DL.isB_str_q, DL.isB_dict_q, DL.r_is_dn, DL.r_isnt_dn, ite_true, ite_false, if_true, if_false, List.any_cons, List.any_nil, Bool.or_false, Bool.false_or, Bool.true_or, Bool.or_true,
 
  DL.r_add_i, DL.r_add_s, DL.r_add_t, DL.r_sub, DL.r_mul, DL.r_mod, DL.r_div, DL.r_pow, DL.r_lt, DL.r_le, DL.r_gt, DL.r_ge, DL.r_augp, DL.r_augm, DL.r_eq_nn, DL.r_ne_nn, DL.r_eq_nb, DL.r_ne_nb, DL.r_eq_ni, DL.r_ne_ni, DL.r_eq_ns, DL.r_ne_ns, DL.r_eq_bn, DL.r_ne_bn, DL.r_eq_bb, DL.r_ne_bb, DL.r_eq_in, DL.r_ne_in, DL.r_eq_ii, DL.r_ne_ii, DL.r_eq_is, DL.r_ne_is, DL.r_eq_sn, DL.r_ne_sn, DL.r_eq_si, DL.r_ne_si, DL.r_eq_ss, DL.r_ne_ss, DL.r_eq_ll, DL.r_ne_ll, DL.r_eq_lt, DL.r_ne_lt, DL.r_eq_ln, DL.r_ne_ln, DL.r_eq_li, DL.r_ne_li, DL.r_eq_ls, DL.r_ne_ls, DL.r_eq_lb, DL.r_ne_lb, DL.r_eq_nl2, DL.r_ne_nl2, DL.r_eq_il2, DL.r_ne_il2, DL.r_eq_sl2, DL.r_ne_sl2, DL.r_eq_bl2, DL.r_ne_bl2, DL.r_eq_tl, DL.r_ne_tl, DL.r_eq_tt, DL.r_ne_tt, DL.r_eq_tn, DL.r_ne_tn, DL.r_eq_ti, DL.r_ne_ti, DL.r_eq_ts, DL.r_ne_ts, DL.r_eq_tb, DL.r_ne_tb, DL.r_eq_nt2, DL.r_ne_nt2, DL.r_eq_it2, DL.r_ne_it2, DL.r_eq_st2, DL.r_ne_st2, DL.r_eq_bt2, DL.r_ne_bt2, DL.r_is_bb, DL.r_isnt_bb, DL.r_is_nn, DL.r_isnt_nn, DL.r_is_in, DL.r_isnt_in, DL.r_is_sn, DL.r_isnt_sn, DL.r_is_ln, DL.r_isnt_ln, DL.r_is_tn, DL.r_isnt_tn, DL.r_is_bn, DL.r_isnt_bn, DL.r_ix_l, DL.r_ix_t, DL.at0, DL.at1, DL.at2, DL.at3, DL.at4, DL.ixn10, DL.ixn20, DL.ixn21, DL.ixn30, DL.ixn31, DL.ixn32, DL.ixn40, DL.ixn41, DL.ixn42, DL.ixn43, DL.ixn50, DL.ixn51, DL.ixn52, DL.ixn53, DL.ixn54, DL.r_sl_t, DL.r_sl_l, DL.r_sl_q, DL.r_len_l, DL.r_len_t, DL.r_len_s, DL.r_abs, DL.r_int_i, DL.r_int_b, DL.r_max2, DL.r_min2, DL.r_sum, DL.r_any, DL.r_all, DL.r_tuple_l, DL.r_tuple_t, DL.r_list_l, DL.r_list_t, DL.r_isi, DL.noq_n, DL.noq_b, DL.noq_i, DL.noq_s, DL.noq_l, DL.noq_t, DL.noq_q, DL.tru_n, DL.tru_b, DL.tru_i, DL.tru_l, DL.tru_t, DL.isB_int_n, DL.isB_int_b, DL.isB_int_i, DL.isB_int_s, DL.isB_int_l, DL.isB_int_t, DL.isB_bool_n, DL.isB_bool_b, DL.isB_bool_i, DL.isB_bool_s, DL.isB_bool_l, DL.isB_bool_t, DL.isB_tuple_n, DL.isB_tuple_b, DL.isB_tuple_i, DL.isB_tuple_s, DL.isB_tuple_l, DL.isB_tuple_t, DL.isB_list_n, DL.isB_list_b, DL.isB_list_i, DL.isB_list_s, DL.isB_list_l, DL.isB_list_t, DL.isB_str_n, DL.isB_str_b, DL.isB_str_i, DL.isB_str_s, DL.isB_str_l, DL.isB_str_t, DL.isB_dict_n, DL.isB_dict_b, DL.isB_dict_i, DL.isB_dict_s, DL.isB_dict_l, DL.isB_dict_t,
  List.map_cons, List.map_nil, List.length_cons, List.length_nil, List.cons_append, List.nil_append, List.replicate_succ, List.replicate_zero, Nat.sub_self, Nat.add_one_sub_one, Nat.zero_add, Nat.reduceAdd, Nat.reduceSub, Int.cast_ofNat_Int, List.getElem?_cons_zero, List.getElem?_cons_succ, List.set_cons_zero, List.set_cons_succ, true_and, and_true, decide_eq_true_eq, decide_eq_false_iff_not, forall_const, false_implies, true_implies, reduceCtorEq, implies_true, Bool.true_eq_false, Bool.false_eq_true, Bool.not_true, Bool.not_false, Bool.not_eq_true', Bool.not_eq_false', bne_self_eq_false, beq_self_eq_true, Option.some.injEq, exists_eq_left', exists_eq_left, ne_eq, not_false_eq_true, not_true_eq_false])
namespace K36
open PySem PySem.Spec PyProof.Rows L2 DL
theorem w_no {x : D} (h : okN x = false) : within 1 (10 ^ 60) x = false := by
  rw [Bool.eq_false_iff]; intro z
  obtain ⟨n, rfl, n1, n6⟩ := wnat (lo := 1) (hi := 10 ^ 60) z
  rw [okN_nat n6] at h; cases h
theorem hd__law_are_refused_right (cBadBase cBadDigits cBadNumber cBadSteps cBadWay cOtherBase cBadReader cTooMany : Addr) (p : Addr) (xs ds : List D) (Qd : Rf → List D → Prop) (Ed : Addr → List D → Prop) (hn : ds.length + 1 = 1) (h : S__law_are_refused_right xs ds Qd Ed) : rd__law_are_refused_right cBadBase cBadDigits cBadNumber cBadSteps cBadWay cOtherBase cBadReader cTooMany (endB p Qd Ed) (.o p xs :: argsD 5 ds) := by
  unfold S__law_are_refused_right at h
  split at h
  · obtain ⟨hh, q⟩ := h
    unfold rd__law_are_refused_right
    walk_at "dl"
    refine ⟨hh, fun x xs hx1 hx2 hxs => ?_⟩
    walk_at "dl"
    refine ⟨⟨by decide, by decide, by decide⟩, by decide, hxs, by decide, by decide, fun no hno vs hv => ⟨⟨by decide, by decide, by decide⟩, ⟨by decide, by decide, by decide⟩, by decide, hv, by decide, by decide, fun bad hbad us hu => ⟨⟨by decide, by decide, by decide⟩, by decide, hu, by decide, by decide, fun base hbase ws hw => ?_⟩⟩⟩
    obtain ⟨n1, n2⟩ : noq no = true ∧ okN no = false := by
      simp only [List.mem_cons, List.not_mem_nil, or_false] at hno
      rcases hno with rfl | rfl
      · exact ⟨hx1, hx2⟩
      · exact ⟨rfl, by decide +kernel⟩
    obtain ⟨b1, b2⟩ : noq bad = true ∧ okPr bad = false := by
      simp only [List.mem_cons, List.not_mem_nil, or_false] at hbad
      rcases hbad with rfl | rfl | rfl | rfl | rfl | rfl | rfl | rfl | rfl | rfl | rfl
      all_goals first
        | exact ⟨rfl, rfl⟩
        | exact ⟨rfl, by decide +kernel⟩
    obtain ⟨c1, c2⟩ : noq base = true ∧ within 2 1000000 base = false := by
      simp only [List.mem_cons, List.not_mem_nil, or_false] at hbase
      rcases hbase with rfl | rfl | rfl | rfl | rfl | rfl | rfl
      all_goals first
        | exact ⟨rfl, rfl⟩
        | exact ⟨rfl, by decide +kernel⟩
    clear hno hbad hbase
    have ok1 : okN (.int 1) = true := by decide +kernel
    have ok3 : okN (.int 3) = true := by decide +kernel
    have ok5 : okN (.int 5) = true := by decide +kernel
    have wn1 : within 1 (10 ^ 60) (.int 1) = true := by decide +kernel
    refine lamO_y ?_
    walk_at "dl"
    refine ⟨by decide, hw, by decide, by decide, fun y hy us hu => ?_⟩
    obtain ⟨y1, y2⟩ : noq y = true ∧ within 1 (10 ^ 60) y = false := by
      simp only [List.mem_cons, List.not_mem_nil, or_false] at hy
      rcases hy with rfl | rfl
      · exact ⟨n1, w_no n2⟩
      · exact ⟨rfl, by decide +kernel⟩
    refine ⟨y1, fun _ => ⟨.str "number", .inr ⟨rfl, rfl⟩, rfl, ?_⟩, fun z => absurd (y2.symm.trans z) (by decide)⟩
    walk_at "dl"
    refine ⟨by decide, fun pw _ => ?_⟩
    refine lam_y (.str "base") rfl (fun E R hE => ?_) ?_
    · walk_at "dl"
      exact ⟨rfl, fun z => absurd z (by rw [wn1]; decide), fun _ => ⟨b1, fun _ => hE _ (.inl ⟨rfl, rfl⟩), fun z => absurd (b2.symm.trans z) (by decide)⟩⟩
    walk_at "dl"
    refine ⟨by decide, ?_⟩
    refine lam_y (.str "number") rfl (fun E R hE => ?_) ?_
    · walk_at "dl"
      exact ⟨n1, fun _ => hE _ (.inr ⟨rfl, rfl⟩), fun z => absurd (n2.symm.trans z) (by decide)⟩
    walk_at "dl"
    refine ⟨by decide, ?_⟩
    refine lam_y (.str "base") rfl (fun E R hE => ?_) ?_
    · walk_at "dl"
      exact ⟨rfl, fun z => absurd z (by rw [ok1]; decide), fun _ => ⟨b1, fun _ => hE _ (.inl ⟨rfl, rfl⟩), fun z => absurd (b2.symm.trans z) (by decide)⟩⟩
    walk_at "dl"
    refine ⟨by decide, ?_⟩
    refine lam_y (.str "number") rfl (fun E R hE => ?_) ?_
    · walk_at "dl"
      exact ⟨n1, fun _ => hE _ (.inr ⟨rfl, rfl⟩), fun z => absurd (n2.symm.trans z) (by decide)⟩
    walk_at "dl"
    refine ⟨by decide, ?_⟩
    refine lam_y (.str "base") rfl (fun E R hE => ?_) ?_
    · walk_at "dl"
      exact ⟨rfl, fun z => absurd z (by rw [ok3]; decide), fun _ => ⟨b1, fun _ => hE _ (.inl ⟨rfl, rfl⟩), fun z => absurd (b2.symm.trans z) (by decide)⟩⟩
    walk_at "dl"
    refine ⟨by decide, ?_⟩
    refine lam_y (.str "number") rfl (fun E R hE => ?_) ?_
    · walk_at "dl"
      exact ⟨n1, rfl, fun _ => hE _ (.inr ⟨rfl, rfl⟩), fun z => absurd (n2.symm.trans z) (by decide)⟩
    walk_at "dl"
    refine ⟨by decide, ?_⟩
    refine lam_y (.str "number") rfl (fun E R hE => ?_) ?_
    · walk_at "dl"
      exact ⟨rfl, n1, fun _ => hE _ (.inr ⟨rfl, rfl⟩), fun _ z => absurd (n2.symm.trans z) (by decide)⟩
    walk_at "dl"
    refine ⟨by decide, ?_⟩
    refine lam_y (.str "base") rfl (fun E R hE => ?_) ?_
    · walk_at "dl"
      exact ⟨rfl, rfl, fun z => absurd z (by rw [ok1]; decide), fun _ _ => ⟨b1, fun _ => hE _ (.inl ⟨rfl, rfl⟩), fun z => absurd (b2.symm.trans z) (by decide)⟩⟩
    walk_at "dl"
    refine ⟨by decide, ?_⟩
    refine lam_y (.str "number") rfl (fun E R hE => ?_) ?_
    · walk_at "dl"
      exact ⟨n1, fun _ => hE _ (.inr ⟨rfl, rfl⟩), fun z => absurd (n2.symm.trans z) (by decide)⟩
    walk_at "dl"
    refine ⟨by decide, ?_⟩
    refine lam_y (.str "base") rfl (fun E R hE => ?_) ?_
    · walk_at "dl"
      exact ⟨rfl, fun z => absurd z (by rw [ok5]; decide), fun _ => ⟨b1, fun _ => hE _ (.inl ⟨rfl, rfl⟩), fun z => absurd (b2.symm.trans z) (by decide)⟩⟩
    walk_at "dl"
    refine ⟨by decide, ?_⟩
    refine lam_y (.str "number") rfl (fun E R hE => ?_) ?_
    · walk_at "dl"
      exact ⟨n1, fun _ => hE _ (.inr ⟨rfl, rfl⟩), fun z => absurd (n2.symm.trans z) (by decide)⟩
    walk_at "dl"
    refine ⟨by decide, ?_⟩
    refine lam_y (.str "number") rfl (fun E R hE => ?_) ?_
    · walk_at "dl"
      exact ⟨n1, fun _ => hE _ (.inr ⟨rfl, rfl⟩), fun z => absurd (n2.symm.trans z) (by decide)⟩
    walk_at "dl"
    refine ⟨by decide, ?_⟩
    refine lam_y (.str "base") rfl (fun E R hE => ?_) ?_
    · walk_at "dl"
      exact ⟨rfl, fun z => absurd z (by rw [ok5]; decide), fun _ => ⟨c1, fun _ => hE _ (.inl ⟨rfl, rfl⟩), fun z => absurd (c2.symm.trans z) (by decide)⟩⟩
    walk_at "dl"
    refine ⟨by decide, ?_⟩
    refine lam_y (.str "number") rfl (fun E R hE => ?_) ?_
    · walk_at "dl"
      exact ⟨n1, rfl, fun _ => hE _ (.inr ⟨rfl, rfl⟩), fun z => absurd (n2.symm.trans z) (by decide)⟩
    walk_at "dl"
    refine ⟨by decide, ?_⟩
    refine lam_y (.str "number") rfl (fun E R hE => ?_) ?_
    · walk_at "dl"
      exact ⟨rfl, n1, fun _ => hE _ (.inr ⟨rfl, rfl⟩), fun _ z => absurd (n2.symm.trans z) (by decide)⟩
    walk_at "dl"
    refine ⟨by decide, ?_⟩
    refine lam_y (.str "base") rfl (fun E R hE => ?_) ?_
    · walk_at "dl"
      exact ⟨rfl, rfl, fun z => absurd z (by rw [ok1]; decide), fun _ _ => ⟨c1, fun _ => hE _ (.inl ⟨rfl, rfl⟩), fun z => absurd (c2.symm.trans z) (by decide)⟩⟩
    walk_at "dl"
    refine ⟨by decide, ?_⟩
    have ok : okE (D.lst [D.str (Str.ofString "number"), D.str (Str.ofString "base"), D.str (Str.ofString "number"), D.str (Str.ofString "base"), D.str (Str.ofString "number"), D.str (Str.ofString "base"), D.str (Str.ofString "number"), D.str (Str.ofString "number"), D.str (Str.ofString "base"), D.str (Str.ofString "number"), D.str (Str.ofString "base"), D.str (Str.ofString "number"), D.str (Str.ofString "number"), D.str (Str.ofString "base"), D.str (Str.ofString "number"), D.str (Str.ofString "number"), D.str (Str.ofString "base")]) = true := by decide +kernel
    refine ⟨by decide, by decide, by decide, by decide, by decide, by decide, by decide, by decide, ok, ok, rfl, us, rfl, ?_⟩
    have z := q us hu
    rw [← eqv_self ok] at z
    exact z
  · exact h.elim
theorem hd_law (cBadBase cBadNumber : Addr) (ds : List D) (Qd : Rf → Prop) (Ed : Addr → Prop) (hn : ds.length = 1) (h : S_law ds Qd Ed) : rd_law cBadBase cBadNumber (endA Qd Ed) (argsD 4 ds) := by
  unfold S_law at h
  split at h
  · obtain ⟨ns, rfl, hl, q⟩ := h
    unfold rd_law
    walk_at "dl"
    unfold S__law_hand
    refine ⟨ns, rfl, hl, fun hnd hh => ?_⟩
    walk_at "dl"
    refine fun p0 _ => ?_
    refine ⟨by decide, by decide, ?_⟩
    refine for_rng (n := 4) (fun i δ => ∃ ys a b, δ = [Sl.d (D.sq (List.map D.int ns)), .o p0 ys, a, b] ∧ isHand ys) ⟨_, _, _, rfl, hh⟩ ?_ ?_
    · rintro i δ hi ⟨ys, a, b, rfl, hy⟩
      walk_at "dl"
      refine ⟨hy, fun zs hz => ?_⟩
      walk_at "dl"
      refine ⟨hz, fun ws hw => ?_⟩
      walk_at "dl"
      refine ⟨hw, fun us hu => ?_⟩
      walk_at "dl"
      exact ⟨_, _, _, rfl, hu⟩
    · rintro δ ⟨ys, a, b, rfl, hy⟩
      walk_at "dl"
      refine zer_ask (n := 100) (b := 10) (by decide) (by decide) (by decide) (by decide +kernel) ⟨[(2, 1), (5, 1)], by decide +kernel, ?_⟩
      walk_at "dl"
      refine och_ask (n := 4) (k := 2) (p := 2) (by decide) (by decide) ok2 (fun z => absurd z (by decide)) fun _ => ?_
      walk_at "dl"
      refine lst_ask (n := 10) (by decide) ?_
      walk_at "dl"
      rw [show mn (mnL 100 [(2, 1), (5, 1)]) = 24 by decide +kernel, show (crs 2 2 2 0).sum = 1 by decide +kernel, show lastF 10 = 8 by decide +kernel]
      refine ⟨by decide, och_ask (n := 2) (k := 3) (p := 5) (by decide) (by decide) ok5 (fun _ => ?_) fun z => absurd z (by decide)⟩
      walk_at "dl"
      refine ⟨by decide, by decide, by decide, is_ask rfl (isP_lst (show 4 ≤ sizeLine by decide) fun x hx => ?_) q⟩
      simp only [List.mem_cons, List.not_mem_nil, or_false] at hx
      rcases hx with rfl | rfl | rfl | rfl
      · exact isP_int _
      · exact isP_int _
      · exact isP_int _
      · rfl
  · exact h.elim
end K36


set_option Elab.async false
set_option linter.all false
set_option maxRecDepth 100000
set_option maxHeartbeats 4000000
namespace K36
open PySem PySem.Spec PyProof.Rows L2 DL
theorem all_mk {l : PySem.W.OpenLaw} {w : World} {K : PySem.W.Frag} {h : Heap} {mg : Str → Option Value} {fa : Addr} (X : K.In h) (G : h.Ns mainGlobals mg) (hfa : mg "law" = some (.ref fa))
    {cl__law_are_refused_right P__law_are_refused_right cTermError : Addr} {f_is_integer f_check_numbers f_is_within f_primes_of f_is_prime f_check_prime f_carries_of f_often_in_choices f_often_in_product f_product_to f_rest_of_product f_last_figure_of_product f_zeros_of_product f__law_hand f__law_is f_carry_number f_often_in f_figures_of f_often_by_figures f__law_draw f__law_any f__law_prime f__law_great f__law_often f__law_in_product f__law_zeros f__law_carry_number f__law_is_right f__law_product f__law_rest f__law_last f__law_are_rests_right f__law_word f__law_no_number f__law_are_refused_right f_law cBadBase cBadDigits cBadNumber cBadSteps cBadWay cOtherBase cBadReader cTooMany : Addr} {oc_is_integer kV_is_integer dc_is_integer pm_is_integer ct_is_integer cd_is_integer oc_check_numbers kV_check_numbers dc_check_numbers pm_check_numbers ct_check_numbers cd_check_numbers oc_is_within kV_is_within dc_is_within pm_is_within ct_is_within cd_is_within oc_primes_of kV_primes_of dc_primes_of pm_primes_of ct_primes_of cd_primes_of oc_is_prime kV_is_prime dc_is_prime pm_is_prime ct_is_prime cd_is_prime oc_check_prime kV_check_prime dc_check_prime pm_check_prime ct_check_prime cd_check_prime oc_carries_of kV_carries_of dc_carries_of pm_carries_of ct_carries_of cd_carries_of oc_often_in_choices kV_often_in_choices dc_often_in_choices pm_often_in_choices ct_often_in_choices cd_often_in_choices oc_often_in_product kV_often_in_product dc_often_in_product pm_often_in_product ct_often_in_product cd_often_in_product oc_product_to kV_product_to dc_product_to pm_product_to ct_product_to cd_product_to oc_rest_of_product kV_rest_of_product dc_rest_of_product pm_rest_of_product ct_rest_of_product cd_rest_of_product oc_last_figure_of_product kV_last_figure_of_product dc_last_figure_of_product pm_last_figure_of_product ct_last_figure_of_product cd_last_figure_of_product oc_zeros_of_product kV_zeros_of_product dc_zeros_of_product pm_zeros_of_product ct_zeros_of_product cd_zeros_of_product oc__law_hand kV__law_hand dc__law_hand pm__law_hand ct__law_hand cd__law_hand oc__law_is kV__law_is dc__law_is pm__law_is ct__law_is cd__law_is oc_carry_number kV_carry_number dc_carry_number pm_carry_number ct_carry_number cd_carry_number oc_often_in kV_often_in dc_often_in pm_often_in ct_often_in cd_often_in oc_figures_of kV_figures_of dc_figures_of pm_figures_of ct_figures_of cd_figures_of oc_often_by_figures kV_often_by_figures dc_often_by_figures pm_often_by_figures ct_often_by_figures cd_often_by_figures oc__law_draw kV__law_draw dc__law_draw pm__law_draw ct__law_draw cd__law_draw oc__law_any kV__law_any dc__law_any pm__law_any ct__law_any cd__law_any oc__law_prime kV__law_prime dc__law_prime pm__law_prime ct__law_prime cd__law_prime oc__law_great kV__law_great dc__law_great pm__law_great ct__law_great cd__law_great oc__law_often kV__law_often dc__law_often pm__law_often ct__law_often cd__law_often oc__law_in_product kV__law_in_product dc__law_in_product pm__law_in_product ct__law_in_product cd__law_in_product oc__law_zeros kV__law_zeros dc__law_zeros pm__law_zeros ct__law_zeros cd__law_zeros oc__law_carry_number kV__law_carry_number dc__law_carry_number pm__law_carry_number ct__law_carry_number cd__law_carry_number oc__law_is_right kV__law_is_right dc__law_is_right pm__law_is_right ct__law_is_right cd__law_is_right oc__law_product kV__law_product dc__law_product pm__law_product ct__law_product cd__law_product oc__law_rest kV__law_rest dc__law_rest pm__law_rest ct__law_rest cd__law_rest oc__law_last kV__law_last dc__law_last pm__law_last ct__law_last cd__law_last oc__law_are_rests_right kV__law_are_rests_right dc__law_are_rests_right pm__law_are_rests_right ct__law_are_rests_right cd__law_are_rests_right oc__law_word kV__law_word dc__law_word pm__law_word ct__law_word cd__law_word oc__law_no_number kV__law_no_number dc__law_no_number pm__law_no_number ct__law_no_number cd__law_no_number oc__law_are_refused_right kV__law_are_refused_right dc__law_are_refused_right pm__law_are_refused_right ct__law_are_refused_right oc_law kV_law dc_law pm_law ct_law cd_law : Value} {od_is_integer an_is_integer od_check_numbers an_check_numbers od_is_within an_is_within od_primes_of an_primes_of od_is_prime an_is_prime od_check_prime an_check_prime od_carries_of an_carries_of od_often_in_choices an_often_in_choices od_often_in_product an_often_in_product od_product_to an_product_to od_rest_of_product an_rest_of_product od_last_figure_of_product an_last_figure_of_product od_zeros_of_product an_zeros_of_product od__law_hand an__law_hand od__law_is an__law_is od_carry_number an_carry_number od_often_in an_often_in od_figures_of an_figures_of od_often_by_figures an_often_by_figures od__law_draw an__law_draw od__law_any an__law_any od__law_prime an__law_prime od__law_great an__law_great od__law_often an__law_often od__law_in_product an__law_in_product od__law_zeros an__law_zeros od__law_carry_number an__law_carry_number od__law_is_right an__law_is_right od__law_product an__law_product od__law_rest an__law_rest od__law_last an__law_last od__law_are_rests_right an__law_are_rests_right od__law_word an__law_word od__law_no_number an__law_no_number od__law_are_refused_right an__law_are_refused_right od_law an_law : Option Addr} {sl_is_integer sl_check_numbers sl_is_within sl_primes_of sl_is_prime sl_check_prime sl_carries_of sl_often_in_choices sl_often_in_product sl_product_to sl_rest_of_product sl_last_figure_of_product sl_zeros_of_product sl__law_hand sl__law_is sl_carry_number sl_often_in sl_figures_of sl_often_by_figures sl__law_draw sl__law_any sl__law_prime sl__law_great sl__law_often sl__law_in_product sl__law_zeros sl__law_carry_number sl__law_is_right sl__law_product sl__law_rest sl__law_last sl__law_are_rests_right sl__law_word sl__law_no_number sl__law_are_refused_right sl_law : Array (Option Value)} {t_MOST_NUMBER t_MOST_PRIME : Tok}
    (a_is_integer : PySem.W.nsIn K mainGlobals "is_integer" = some (some (.ref f_is_integer)))
    (l_is_integer : K.lookup f_is_integer = some ⟨oc_is_integer, od_is_integer, .func (PySem.W.fnOf "is_integer" "is_integer" (defArgs s_is_integer) (defBody s_is_integer) (defScope s_is_integer) .none kV_is_integer dc_is_integer pm_is_integer an_is_integer cd_is_integer ct_is_integer), sl_is_integer⟩)
    (c_is_integer : PySem.W.codeIn K cd_is_integer "is_integer" = true)
    (q_is_integer : PySem.W.keepIn K (.ref f_is_integer) = true)
    (a_check_numbers : PySem.W.nsIn K mainGlobals "check_numbers" = some (some (.ref f_check_numbers)))
    (l_check_numbers : K.lookup f_check_numbers = some ⟨oc_check_numbers, od_check_numbers, .func (PySem.W.fnOf "check_numbers" "check_numbers" (defArgs s_check_numbers) (defBody s_check_numbers) (defScope s_check_numbers) .none kV_check_numbers dc_check_numbers pm_check_numbers an_check_numbers cd_check_numbers ct_check_numbers), sl_check_numbers⟩)
    (c_check_numbers : PySem.W.codeIn K cd_check_numbers "check_numbers" = true)
    (q_check_numbers : PySem.W.keepIn K (.ref f_check_numbers) = true)
    (a_is_within : PySem.W.nsIn K mainGlobals "is_within" = some (some (.ref f_is_within)))
    (l_is_within : K.lookup f_is_within = some ⟨oc_is_within, od_is_within, .func (PySem.W.fnOf "is_within" "is_within" (defArgs s_is_within) (defBody s_is_within) (defScope s_is_within) .none kV_is_within dc_is_within pm_is_within an_is_within cd_is_within ct_is_within), sl_is_within⟩)
    (c_is_within : PySem.W.codeIn K cd_is_within "is_within" = true)
    (q_is_within : PySem.W.keepIn K (.ref f_is_within) = true)
    (a_primes_of : PySem.W.nsIn K mainGlobals "primes_of" = some (some (.ref f_primes_of)))
    (l_primes_of : K.lookup f_primes_of = some ⟨oc_primes_of, od_primes_of, .func (PySem.W.fnOf "primes_of" "primes_of" (defArgs s_primes_of) (defBody s_primes_of) (defScope s_primes_of) .none kV_primes_of dc_primes_of pm_primes_of an_primes_of cd_primes_of ct_primes_of), sl_primes_of⟩)
    (c_primes_of : PySem.W.codeIn K cd_primes_of "primes_of" = true)
    (q_primes_of : PySem.W.keepIn K (.ref f_primes_of) = true)
    (a_is_prime : PySem.W.nsIn K mainGlobals "is_prime" = some (some (.ref f_is_prime)))
    (l_is_prime : K.lookup f_is_prime = some ⟨oc_is_prime, od_is_prime, .func (PySem.W.fnOf "is_prime" "is_prime" (defArgs s_is_prime) (defBody s_is_prime) (defScope s_is_prime) .none kV_is_prime dc_is_prime pm_is_prime an_is_prime cd_is_prime ct_is_prime), sl_is_prime⟩)
    (c_is_prime : PySem.W.codeIn K cd_is_prime "is_prime" = true)
    (q_is_prime : PySem.W.keepIn K (.ref f_is_prime) = true)
    (a_check_prime : PySem.W.nsIn K mainGlobals "check_prime" = some (some (.ref f_check_prime)))
    (l_check_prime : K.lookup f_check_prime = some ⟨oc_check_prime, od_check_prime, .func (PySem.W.fnOf "check_prime" "check_prime" (defArgs s_check_prime) (defBody s_check_prime) (defScope s_check_prime) .none kV_check_prime dc_check_prime pm_check_prime an_check_prime cd_check_prime ct_check_prime), sl_check_prime⟩)
    (c_check_prime : PySem.W.codeIn K cd_check_prime "check_prime" = true)
    (q_check_prime : PySem.W.keepIn K (.ref f_check_prime) = true)
    (a_carries_of : PySem.W.nsIn K mainGlobals "carries_of" = some (some (.ref f_carries_of)))
    (l_carries_of : K.lookup f_carries_of = some ⟨oc_carries_of, od_carries_of, .func (PySem.W.fnOf "carries_of" "carries_of" (defArgs s_carries_of) (defBody s_carries_of) (defScope s_carries_of) .none kV_carries_of dc_carries_of pm_carries_of an_carries_of cd_carries_of ct_carries_of), sl_carries_of⟩)
    (c_carries_of : PySem.W.codeIn K cd_carries_of "carries_of" = true)
    (q_carries_of : PySem.W.keepIn K (.ref f_carries_of) = true)
    (a_often_in_choices : PySem.W.nsIn K mainGlobals "often_in_choices" = some (some (.ref f_often_in_choices)))
    (l_often_in_choices : K.lookup f_often_in_choices = some ⟨oc_often_in_choices, od_often_in_choices, .func (PySem.W.fnOf "often_in_choices" "often_in_choices" (defArgs s_often_in_choices) (defBody s_often_in_choices) (defScope s_often_in_choices) .none kV_often_in_choices dc_often_in_choices pm_often_in_choices an_often_in_choices cd_often_in_choices ct_often_in_choices), sl_often_in_choices⟩)
    (c_often_in_choices : PySem.W.codeIn K cd_often_in_choices "often_in_choices" = true)
    (q_often_in_choices : PySem.W.keepIn K (.ref f_often_in_choices) = true)
    (a_often_in_product : PySem.W.nsIn K mainGlobals "often_in_product" = some (some (.ref f_often_in_product)))
    (l_often_in_product : K.lookup f_often_in_product = some ⟨oc_often_in_product, od_often_in_product, .func (PySem.W.fnOf "often_in_product" "often_in_product" (defArgs s_often_in_product) (defBody s_often_in_product) (defScope s_often_in_product) .none kV_often_in_product dc_often_in_product pm_often_in_product an_often_in_product cd_often_in_product ct_often_in_product), sl_often_in_product⟩)
    (c_often_in_product : PySem.W.codeIn K cd_often_in_product "often_in_product" = true)
    (q_often_in_product : PySem.W.keepIn K (.ref f_often_in_product) = true)
    (a_product_to : PySem.W.nsIn K mainGlobals "product_to" = some (some (.ref f_product_to)))
    (l_product_to : K.lookup f_product_to = some ⟨oc_product_to, od_product_to, .func (PySem.W.fnOf "product_to" "product_to" (defArgs s_product_to) (defBody s_product_to) (defScope s_product_to) .none kV_product_to dc_product_to pm_product_to an_product_to cd_product_to ct_product_to), sl_product_to⟩)
    (c_product_to : PySem.W.codeIn K cd_product_to "product_to" = true)
    (q_product_to : PySem.W.keepIn K (.ref f_product_to) = true)
    (a_rest_of_product : PySem.W.nsIn K mainGlobals "rest_of_product" = some (some (.ref f_rest_of_product)))
    (l_rest_of_product : K.lookup f_rest_of_product = some ⟨oc_rest_of_product, od_rest_of_product, .func (PySem.W.fnOf "rest_of_product" "rest_of_product" (defArgs s_rest_of_product) (defBody s_rest_of_product) (defScope s_rest_of_product) .none kV_rest_of_product dc_rest_of_product pm_rest_of_product an_rest_of_product cd_rest_of_product ct_rest_of_product), sl_rest_of_product⟩)
    (c_rest_of_product : PySem.W.codeIn K cd_rest_of_product "rest_of_product" = true)
    (q_rest_of_product : PySem.W.keepIn K (.ref f_rest_of_product) = true)
    (a_last_figure_of_product : PySem.W.nsIn K mainGlobals "last_figure_of_product" = some (some (.ref f_last_figure_of_product)))
    (l_last_figure_of_product : K.lookup f_last_figure_of_product = some ⟨oc_last_figure_of_product, od_last_figure_of_product, .func (PySem.W.fnOf "last_figure_of_product" "last_figure_of_product" (defArgs s_last_figure_of_product) (defBody s_last_figure_of_product) (defScope s_last_figure_of_product) .none kV_last_figure_of_product dc_last_figure_of_product pm_last_figure_of_product an_last_figure_of_product cd_last_figure_of_product ct_last_figure_of_product), sl_last_figure_of_product⟩)
    (c_last_figure_of_product : PySem.W.codeIn K cd_last_figure_of_product "last_figure_of_product" = true)
    (q_last_figure_of_product : PySem.W.keepIn K (.ref f_last_figure_of_product) = true)
    (a_zeros_of_product : PySem.W.nsIn K mainGlobals "zeros_of_product" = some (some (.ref f_zeros_of_product)))
    (l_zeros_of_product : K.lookup f_zeros_of_product = some ⟨oc_zeros_of_product, od_zeros_of_product, .func (PySem.W.fnOf "zeros_of_product" "zeros_of_product" (defArgs s_zeros_of_product) (defBody s_zeros_of_product) (defScope s_zeros_of_product) .none kV_zeros_of_product dc_zeros_of_product pm_zeros_of_product an_zeros_of_product cd_zeros_of_product ct_zeros_of_product), sl_zeros_of_product⟩)
    (c_zeros_of_product : PySem.W.codeIn K cd_zeros_of_product "zeros_of_product" = true)
    (q_zeros_of_product : PySem.W.keepIn K (.ref f_zeros_of_product) = true)
    (a__law_hand : PySem.W.nsIn K mainGlobals "_law_hand" = some (some (.ref f__law_hand)))
    (l__law_hand : K.lookup f__law_hand = some ⟨oc__law_hand, od__law_hand, .func (PySem.W.fnOf "_law_hand" "_law_hand" (defArgs s__law_hand) (defBody s__law_hand) (defScope s__law_hand) .none kV__law_hand dc__law_hand pm__law_hand an__law_hand cd__law_hand ct__law_hand), sl__law_hand⟩)
    (c__law_hand : PySem.W.codeIn K cd__law_hand "_law_hand" = true)
    (q__law_hand : PySem.W.keepIn K (.ref f__law_hand) = true)
    (a__law_is : PySem.W.nsIn K mainGlobals "_law_is" = some (some (.ref f__law_is)))
    (l__law_is : K.lookup f__law_is = some ⟨oc__law_is, od__law_is, .func (PySem.W.fnOf "_law_is" "_law_is" (defArgs s__law_is) (defBody s__law_is) (defScope s__law_is) .none kV__law_is dc__law_is pm__law_is an__law_is cd__law_is ct__law_is), sl__law_is⟩)
    (c__law_is : PySem.W.codeIn K cd__law_is "_law_is" = true)
    (q__law_is : PySem.W.keepIn K (.ref f__law_is) = true)
    (a_carry_number : PySem.W.nsIn K mainGlobals "carry_number" = some (some (.ref f_carry_number)))
    (l_carry_number : K.lookup f_carry_number = some ⟨oc_carry_number, od_carry_number, .func (PySem.W.fnOf "carry_number" "carry_number" (defArgs s_carry_number) (defBody s_carry_number) (defScope s_carry_number) .none kV_carry_number dc_carry_number pm_carry_number an_carry_number cd_carry_number ct_carry_number), sl_carry_number⟩)
    (c_carry_number : PySem.W.codeIn K cd_carry_number "carry_number" = true)
    (q_carry_number : PySem.W.keepIn K (.ref f_carry_number) = true)
    (a_often_in : PySem.W.nsIn K mainGlobals "often_in" = some (some (.ref f_often_in)))
    (l_often_in : K.lookup f_often_in = some ⟨oc_often_in, od_often_in, .func (PySem.W.fnOf "often_in" "often_in" (defArgs s_often_in) (defBody s_often_in) (defScope s_often_in) .none kV_often_in dc_often_in pm_often_in an_often_in cd_often_in ct_often_in), sl_often_in⟩)
    (c_often_in : PySem.W.codeIn K cd_often_in "often_in" = true)
    (q_often_in : PySem.W.keepIn K (.ref f_often_in) = true)
    (a_figures_of : PySem.W.nsIn K mainGlobals "figures_of" = some (some (.ref f_figures_of)))
    (l_figures_of : K.lookup f_figures_of = some ⟨oc_figures_of, od_figures_of, .func (PySem.W.fnOf "figures_of" "figures_of" (defArgs s_figures_of) (defBody s_figures_of) (defScope s_figures_of) .none kV_figures_of dc_figures_of pm_figures_of an_figures_of cd_figures_of ct_figures_of), sl_figures_of⟩)
    (c_figures_of : PySem.W.codeIn K cd_figures_of "figures_of" = true)
    (q_figures_of : PySem.W.keepIn K (.ref f_figures_of) = true)
    (a_often_by_figures : PySem.W.nsIn K mainGlobals "often_by_figures" = some (some (.ref f_often_by_figures)))
    (l_often_by_figures : K.lookup f_often_by_figures = some ⟨oc_often_by_figures, od_often_by_figures, .func (PySem.W.fnOf "often_by_figures" "often_by_figures" (defArgs s_often_by_figures) (defBody s_often_by_figures) (defScope s_often_by_figures) .none kV_often_by_figures dc_often_by_figures pm_often_by_figures an_often_by_figures cd_often_by_figures ct_often_by_figures), sl_often_by_figures⟩)
    (c_often_by_figures : PySem.W.codeIn K cd_often_by_figures "often_by_figures" = true)
    (q_often_by_figures : PySem.W.keepIn K (.ref f_often_by_figures) = true)
    (a__law_draw : PySem.W.nsIn K mainGlobals "_law_draw" = some (some (.ref f__law_draw)))
    (l__law_draw : K.lookup f__law_draw = some ⟨oc__law_draw, od__law_draw, .func (PySem.W.fnOf "_law_draw" "_law_draw" (defArgs s__law_draw) (defBody s__law_draw) (defScope s__law_draw) .none kV__law_draw dc__law_draw pm__law_draw an__law_draw cd__law_draw ct__law_draw), sl__law_draw⟩)
    (c__law_draw : PySem.W.codeIn K cd__law_draw "_law_draw" = true)
    (q__law_draw : PySem.W.keepIn K (.ref f__law_draw) = true)
    (a__law_any : PySem.W.nsIn K mainGlobals "_law_any" = some (some (.ref f__law_any)))
    (l__law_any : K.lookup f__law_any = some ⟨oc__law_any, od__law_any, .func (PySem.W.fnOf "_law_any" "_law_any" (defArgs s__law_any) (defBody s__law_any) (defScope s__law_any) .none kV__law_any dc__law_any pm__law_any an__law_any cd__law_any ct__law_any), sl__law_any⟩)
    (c__law_any : PySem.W.codeIn K cd__law_any "_law_any" = true)
    (q__law_any : PySem.W.keepIn K (.ref f__law_any) = true)
    (a__law_prime : PySem.W.nsIn K mainGlobals "_law_prime" = some (some (.ref f__law_prime)))
    (l__law_prime : K.lookup f__law_prime = some ⟨oc__law_prime, od__law_prime, .func (PySem.W.fnOf "_law_prime" "_law_prime" (defArgs s__law_prime) (defBody s__law_prime) (defScope s__law_prime) .none kV__law_prime dc__law_prime pm__law_prime an__law_prime cd__law_prime ct__law_prime), sl__law_prime⟩)
    (c__law_prime : PySem.W.codeIn K cd__law_prime "_law_prime" = true)
    (q__law_prime : PySem.W.keepIn K (.ref f__law_prime) = true)
    (a__law_great : PySem.W.nsIn K mainGlobals "_law_great" = some (some (.ref f__law_great)))
    (l__law_great : K.lookup f__law_great = some ⟨oc__law_great, od__law_great, .func (PySem.W.fnOf "_law_great" "_law_great" (defArgs s__law_great) (defBody s__law_great) (defScope s__law_great) .none kV__law_great dc__law_great pm__law_great an__law_great cd__law_great ct__law_great), sl__law_great⟩)
    (c__law_great : PySem.W.codeIn K cd__law_great "_law_great" = true)
    (q__law_great : PySem.W.keepIn K (.ref f__law_great) = true)
    (a__law_often : PySem.W.nsIn K mainGlobals "_law_often" = some (some (.ref f__law_often)))
    (l__law_often : K.lookup f__law_often = some ⟨oc__law_often, od__law_often, .func (PySem.W.fnOf "_law_often" "_law_often" (defArgs s__law_often) (defBody s__law_often) (defScope s__law_often) .none kV__law_often dc__law_often pm__law_often an__law_often cd__law_often ct__law_often), sl__law_often⟩)
    (c__law_often : PySem.W.codeIn K cd__law_often "_law_often" = true)
    (q__law_often : PySem.W.keepIn K (.ref f__law_often) = true)
    (a__law_in_product : PySem.W.nsIn K mainGlobals "_law_in_product" = some (some (.ref f__law_in_product)))
    (l__law_in_product : K.lookup f__law_in_product = some ⟨oc__law_in_product, od__law_in_product, .func (PySem.W.fnOf "_law_in_product" "_law_in_product" (defArgs s__law_in_product) (defBody s__law_in_product) (defScope s__law_in_product) .none kV__law_in_product dc__law_in_product pm__law_in_product an__law_in_product cd__law_in_product ct__law_in_product), sl__law_in_product⟩)
    (c__law_in_product : PySem.W.codeIn K cd__law_in_product "_law_in_product" = true)
    (q__law_in_product : PySem.W.keepIn K (.ref f__law_in_product) = true)
    (a__law_zeros : PySem.W.nsIn K mainGlobals "_law_zeros" = some (some (.ref f__law_zeros)))
    (l__law_zeros : K.lookup f__law_zeros = some ⟨oc__law_zeros, od__law_zeros, .func (PySem.W.fnOf "_law_zeros" "_law_zeros" (defArgs s__law_zeros) (defBody s__law_zeros) (defScope s__law_zeros) .none kV__law_zeros dc__law_zeros pm__law_zeros an__law_zeros cd__law_zeros ct__law_zeros), sl__law_zeros⟩)
    (c__law_zeros : PySem.W.codeIn K cd__law_zeros "_law_zeros" = true)
    (q__law_zeros : PySem.W.keepIn K (.ref f__law_zeros) = true)
    (a__law_carry_number : PySem.W.nsIn K mainGlobals "_law_carry_number" = some (some (.ref f__law_carry_number)))
    (l__law_carry_number : K.lookup f__law_carry_number = some ⟨oc__law_carry_number, od__law_carry_number, .func (PySem.W.fnOf "_law_carry_number" "_law_carry_number" (defArgs s__law_carry_number) (defBody s__law_carry_number) (defScope s__law_carry_number) .none kV__law_carry_number dc__law_carry_number pm__law_carry_number an__law_carry_number cd__law_carry_number ct__law_carry_number), sl__law_carry_number⟩)
    (c__law_carry_number : PySem.W.codeIn K cd__law_carry_number "_law_carry_number" = true)
    (q__law_carry_number : PySem.W.keepIn K (.ref f__law_carry_number) = true)
    (a__law_is_right : PySem.W.nsIn K mainGlobals "_law_is_right" = some (some (.ref f__law_is_right)))
    (l__law_is_right : K.lookup f__law_is_right = some ⟨oc__law_is_right, od__law_is_right, .func (PySem.W.fnOf "_law_is_right" "_law_is_right" (defArgs s__law_is_right) (defBody s__law_is_right) (defScope s__law_is_right) .none kV__law_is_right dc__law_is_right pm__law_is_right an__law_is_right cd__law_is_right ct__law_is_right), sl__law_is_right⟩)
    (c__law_is_right : PySem.W.codeIn K cd__law_is_right "_law_is_right" = true)
    (q__law_is_right : PySem.W.keepIn K (.ref f__law_is_right) = true)
    (a__law_product : PySem.W.nsIn K mainGlobals "_law_product" = some (some (.ref f__law_product)))
    (l__law_product : K.lookup f__law_product = some ⟨oc__law_product, od__law_product, .func (PySem.W.fnOf "_law_product" "_law_product" (defArgs s__law_product) (defBody s__law_product) (defScope s__law_product) .none kV__law_product dc__law_product pm__law_product an__law_product cd__law_product ct__law_product), sl__law_product⟩)
    (c__law_product : PySem.W.codeIn K cd__law_product "_law_product" = true)
    (q__law_product : PySem.W.keepIn K (.ref f__law_product) = true)
    (a__law_rest : PySem.W.nsIn K mainGlobals "_law_rest" = some (some (.ref f__law_rest)))
    (l__law_rest : K.lookup f__law_rest = some ⟨oc__law_rest, od__law_rest, .func (PySem.W.fnOf "_law_rest" "_law_rest" (defArgs s__law_rest) (defBody s__law_rest) (defScope s__law_rest) .none kV__law_rest dc__law_rest pm__law_rest an__law_rest cd__law_rest ct__law_rest), sl__law_rest⟩)
    (c__law_rest : PySem.W.codeIn K cd__law_rest "_law_rest" = true)
    (q__law_rest : PySem.W.keepIn K (.ref f__law_rest) = true)
    (a__law_last : PySem.W.nsIn K mainGlobals "_law_last" = some (some (.ref f__law_last)))
    (l__law_last : K.lookup f__law_last = some ⟨oc__law_last, od__law_last, .func (PySem.W.fnOf "_law_last" "_law_last" (defArgs s__law_last) (defBody s__law_last) (defScope s__law_last) .none kV__law_last dc__law_last pm__law_last an__law_last cd__law_last ct__law_last), sl__law_last⟩)
    (c__law_last : PySem.W.codeIn K cd__law_last "_law_last" = true)
    (q__law_last : PySem.W.keepIn K (.ref f__law_last) = true)
    (a__law_are_rests_right : PySem.W.nsIn K mainGlobals "_law_are_rests_right" = some (some (.ref f__law_are_rests_right)))
    (l__law_are_rests_right : K.lookup f__law_are_rests_right = some ⟨oc__law_are_rests_right, od__law_are_rests_right, .func (PySem.W.fnOf "_law_are_rests_right" "_law_are_rests_right" (defArgs s__law_are_rests_right) (defBody s__law_are_rests_right) (defScope s__law_are_rests_right) .none kV__law_are_rests_right dc__law_are_rests_right pm__law_are_rests_right an__law_are_rests_right cd__law_are_rests_right ct__law_are_rests_right), sl__law_are_rests_right⟩)
    (c__law_are_rests_right : PySem.W.codeIn K cd__law_are_rests_right "_law_are_rests_right" = true)
    (q__law_are_rests_right : PySem.W.keepIn K (.ref f__law_are_rests_right) = true)
    (a__law_word : PySem.W.nsIn K mainGlobals "_law_word" = some (some (.ref f__law_word)))
    (l__law_word : K.lookup f__law_word = some ⟨oc__law_word, od__law_word, .func (PySem.W.fnOf "_law_word" "_law_word" (defArgs s__law_word) (defBody s__law_word) (defScope s__law_word) .none kV__law_word dc__law_word pm__law_word an__law_word cd__law_word ct__law_word), sl__law_word⟩)
    (c__law_word : PySem.W.codeIn K cd__law_word "_law_word" = true)
    (q__law_word : PySem.W.keepIn K (.ref f__law_word) = true)
    (a__law_no_number : PySem.W.nsIn K mainGlobals "_law_no_number" = some (some (.ref f__law_no_number)))
    (l__law_no_number : K.lookup f__law_no_number = some ⟨oc__law_no_number, od__law_no_number, .func (PySem.W.fnOf "_law_no_number" "_law_no_number" (defArgs s__law_no_number) (defBody s__law_no_number) (defScope s__law_no_number) .none kV__law_no_number dc__law_no_number pm__law_no_number an__law_no_number cd__law_no_number ct__law_no_number), sl__law_no_number⟩)
    (c__law_no_number : PySem.W.codeIn K cd__law_no_number "_law_no_number" = true)
    (q__law_no_number : PySem.W.keepIn K (.ref f__law_no_number) = true)
    (a__law_are_refused_right : PySem.W.nsIn K mainGlobals "_law_are_refused_right" = some (some (.ref f__law_are_refused_right)))
    (l__law_are_refused_right : K.lookup f__law_are_refused_right = some ⟨oc__law_are_refused_right, od__law_are_refused_right, .func (PySem.W.fnOf "_law_are_refused_right" "_law_are_refused_right" (defArgs s__law_are_refused_right) (defBody s__law_are_refused_right) (defScope s__law_are_refused_right) .none kV__law_are_refused_right dc__law_are_refused_right pm__law_are_refused_right an__law_are_refused_right (.ref cl__law_are_refused_right) ct__law_are_refused_right), sl__law_are_refused_right⟩)
    (c__law_are_refused_right : PySem.W.codeIn K (.ref cl__law_are_refused_right) "_law_are_refused_right" = true)
    (q__law_are_refused_right : PySem.W.keepIn K (.ref f__law_are_refused_right) = true)
    (a_law : PySem.W.nsIn K mainGlobals "law" = some (some (.ref f_law)))
    (l_law : K.lookup f_law = some ⟨oc_law, od_law, .func (PySem.W.fnOf "law" "law" (defArgs s_law) (defBody s_law) (defScope s_law) .none kV_law dc_law pm_law an_law cd_law ct_law), sl_law⟩)
    (c_law : PySem.W.codeIn K cd_law "law" = true)
    (q_law : PySem.W.keepIn K (.ref f_law) = true)
    (z_ValueError : PySem.W.nsIn K mainGlobals "ValueError" = some none)
    (z_abs : PySem.W.nsIn K mainGlobals "abs" = some none)
    (z_all : PySem.W.nsIn K mainGlobals "all" = some none)
    (z_bool : PySem.W.nsIn K mainGlobals "bool" = some none)
    (z_int : PySem.W.nsIn K mainGlobals "int" = some none)
    (z_isinstance : PySem.W.nsIn K mainGlobals "isinstance" = some none)
    (z_len : PySem.W.nsIn K mainGlobals "len" = some none)
    (z_list : PySem.W.nsIn K mainGlobals "list" = some none)
    (z_max : PySem.W.nsIn K mainGlobals "max" = some none)
    (z_min : PySem.W.nsIn K mainGlobals "min" = some none)
    (z_range : PySem.W.nsIn K mainGlobals "range" = some none)
    (z_reversed : PySem.W.nsIn K mainGlobals "reversed" = some none)
    (z_str : PySem.W.nsIn K mainGlobals "str" = some none)
    (z_sum : PySem.W.nsIn K mainGlobals "sum" = some none)
    (z_tuple : PySem.W.nsIn K mainGlobals "tuple" = some none)
    (z_zip : PySem.W.nsIn K mainGlobals "zip" = some none)
    (k_MOST_NUMBER : PySem.W.nsIn K mainGlobals "MOST_NUMBER" = some (some (.int 1000000000000000000000000000000000000000000000000000000000000 t_MOST_NUMBER)))
    (k_MOST_PRIME : PySem.W.nsIn K mainGlobals "MOST_PRIME" = some (some (.int 1000000 t_MOST_PRIME)))
    (g_BadBase : PySem.W.nsIn K mainGlobals "BadBase" = some (some (.ref cBadBase)))
    (x_BadBase : PySem.W.excIn K cBadBase [.type "ValueError", .type "Exception", .type "BaseException", .type "object"] "ValueError.__new__" = true)
    (p_BadBase : PySem.W.keepIn K (.ref cBadBase) = true)
    (b_BadBase : PySem.W.subIn K (.ref cBadBase) (.type "BaseException") = some true)
    (t_BadBase : PySem.W.typeIn K (.ref cBadBase) = some (.type "type"))
    (g_BadDigits : PySem.W.nsIn K mainGlobals "BadDigits" = some (some (.ref cBadDigits)))
    (x_BadDigits : PySem.W.excIn K cBadDigits [.type "ValueError", .type "Exception", .type "BaseException", .type "object"] "ValueError.__new__" = true)
    (p_BadDigits : PySem.W.keepIn K (.ref cBadDigits) = true)
    (b_BadDigits : PySem.W.subIn K (.ref cBadDigits) (.type "BaseException") = some true)
    (t_BadDigits : PySem.W.typeIn K (.ref cBadDigits) = some (.type "type"))
    (g_BadNumber : PySem.W.nsIn K mainGlobals "BadNumber" = some (some (.ref cBadNumber)))
    (x_BadNumber : PySem.W.excIn K cBadNumber [.type "ValueError", .type "Exception", .type "BaseException", .type "object"] "ValueError.__new__" = true)
    (p_BadNumber : PySem.W.keepIn K (.ref cBadNumber) = true)
    (b_BadNumber : PySem.W.subIn K (.ref cBadNumber) (.type "BaseException") = some true)
    (t_BadNumber : PySem.W.typeIn K (.ref cBadNumber) = some (.type "type"))
    (g_BadSteps : PySem.W.nsIn K mainGlobals "BadSteps" = some (some (.ref cBadSteps)))
    (x_BadSteps : PySem.W.excIn K cBadSteps [.type "ValueError", .type "Exception", .type "BaseException", .type "object"] "ValueError.__new__" = true)
    (p_BadSteps : PySem.W.keepIn K (.ref cBadSteps) = true)
    (b_BadSteps : PySem.W.subIn K (.ref cBadSteps) (.type "BaseException") = some true)
    (t_BadSteps : PySem.W.typeIn K (.ref cBadSteps) = some (.type "type"))
    (g_BadWay : PySem.W.nsIn K mainGlobals "BadWay" = some (some (.ref cBadWay)))
    (x_BadWay : PySem.W.excIn K cBadWay [.type "ValueError", .type "Exception", .type "BaseException", .type "object"] "ValueError.__new__" = true)
    (p_BadWay : PySem.W.keepIn K (.ref cBadWay) = true)
    (b_BadWay : PySem.W.subIn K (.ref cBadWay) (.type "BaseException") = some true)
    (t_BadWay : PySem.W.typeIn K (.ref cBadWay) = some (.type "type"))
    (g_OtherBase : PySem.W.nsIn K mainGlobals "OtherBase" = some (some (.ref cOtherBase)))
    (x_OtherBase : PySem.W.excIn K cOtherBase [.type "ValueError", .type "Exception", .type "BaseException", .type "object"] "ValueError.__new__" = true)
    (p_OtherBase : PySem.W.keepIn K (.ref cOtherBase) = true)
    (b_OtherBase : PySem.W.subIn K (.ref cOtherBase) (.type "BaseException") = some true)
    (t_OtherBase : PySem.W.typeIn K (.ref cOtherBase) = some (.type "type"))
    (g_BadReader : PySem.W.nsIn K mainGlobals "BadReader" = some (some (.ref cBadReader)))
    (p_BadReader : PySem.W.keepIn K (.ref cBadReader) = true)
    (b_BadReader : PySem.W.subIn K (.ref cBadReader) (.type "BaseException") = some true)
    (t_BadReader : PySem.W.typeIn K (.ref cBadReader) = some (.type "type"))
    (g_TooMany : PySem.W.nsIn K mainGlobals "TooMany" = some (some (.ref cTooMany)))
    (p_TooMany : PySem.W.keepIn K (.ref cTooMany) = true)
    (b_TooMany : PySem.W.subIn K (.ref cTooMany) (.type "BaseException") = some true)
    (t_TooMany : PySem.W.typeIn K (.ref cTooMany) = some (.type "type"))
    (w_tab : ∀ p ∈ [P__law_are_refused_right], h.get? p = some (PySem.W.tabObj #[]))
    (w_code__law_are_refused_right : PySem.W.codeHdIn K cl__law_are_refused_right P__law_are_refused_right = true)
    (w_none__law_are_refused_right : K.lookup P__law_are_refused_right = none)
    (g_TermError : PySem.W.nsIn K mainGlobals "TermError" = some (some (.ref cTermError)))
    (b_TermError : PySem.W.subIn K (.ref cTermError) (.type "BaseException") = some true)
    (d_TermError : PySem.W.hasDictIn K cTermError = true)
    (t_TermError : PySem.W.typeIn K (.ref cTermError) = some (.type "type"))
    (o_sp : PySem.W.specialIn K (.builtin "object.__class__") "__get__" = some (some (.builtin "getset_descriptor.__get__")))
    (o_tk : PySem.W.takesIn K (.builtin "object.__class__") = some true)
    (i1_BadBase : PySem.W.findIn K (.ref cBadBase) "__getattribute__" = some (some (.builtin "BaseException.__getattribute__")))
    (i2_BadBase : PySem.W.findIn K (.ref cBadBase) "__getattr__" = some none)
    (i3_BadBase : PySem.W.hasDictIn K cBadBase = true)
    (i4_BadBase : PySem.W.findIn K (.ref cBadBase) "__class__" = some (some (.builtin "object.__class__")))
    (i5_BadBase : PySem.W.mroIn K cBadBase (.type "object") = some true)
    (i6_BadBase : PySem.W.subIn K (.ref cBadBase) (.ref cTermError) = some true)
    (i7_BadBase : PySem.W.kitOne K (.ref cBadBase) (.type "ValueError") = some true)
    (n_BadBase_BadBase : PySem.W.kitOne K (.ref cBadBase) (.ref cBadBase) = some true)
    (n_BadBase_BadDigits : PySem.W.kitOne K (.ref cBadBase) (.ref cBadDigits) = some false)
    (n_BadBase_BadNumber : PySem.W.kitOne K (.ref cBadBase) (.ref cBadNumber) = some false)
    (n_BadBase_BadSteps : PySem.W.kitOne K (.ref cBadBase) (.ref cBadSteps) = some false)
    (n_BadBase_BadWay : PySem.W.kitOne K (.ref cBadBase) (.ref cBadWay) = some false)
    (n_BadBase_OtherBase : PySem.W.kitOne K (.ref cBadBase) (.ref cOtherBase) = some false)
    (n_BadBase_BadReader : PySem.W.kitOne K (.ref cBadBase) (.ref cBadReader) = some false)
    (n_BadBase_TooMany : PySem.W.kitOne K (.ref cBadBase) (.ref cTooMany) = some false)
    (i1_BadDigits : PySem.W.findIn K (.ref cBadDigits) "__getattribute__" = some (some (.builtin "BaseException.__getattribute__")))
    (i2_BadDigits : PySem.W.findIn K (.ref cBadDigits) "__getattr__" = some none)
    (i3_BadDigits : PySem.W.hasDictIn K cBadDigits = true)
    (i4_BadDigits : PySem.W.findIn K (.ref cBadDigits) "__class__" = some (some (.builtin "object.__class__")))
    (i5_BadDigits : PySem.W.mroIn K cBadDigits (.type "object") = some true)
    (i6_BadDigits : PySem.W.subIn K (.ref cBadDigits) (.ref cTermError) = some true)
    (i7_BadDigits : PySem.W.kitOne K (.ref cBadDigits) (.type "ValueError") = some true)
    (n_BadDigits_BadBase : PySem.W.kitOne K (.ref cBadDigits) (.ref cBadBase) = some false)
    (n_BadDigits_BadDigits : PySem.W.kitOne K (.ref cBadDigits) (.ref cBadDigits) = some true)
    (n_BadDigits_BadNumber : PySem.W.kitOne K (.ref cBadDigits) (.ref cBadNumber) = some false)
    (n_BadDigits_BadSteps : PySem.W.kitOne K (.ref cBadDigits) (.ref cBadSteps) = some false)
    (n_BadDigits_BadWay : PySem.W.kitOne K (.ref cBadDigits) (.ref cBadWay) = some false)
    (n_BadDigits_OtherBase : PySem.W.kitOne K (.ref cBadDigits) (.ref cOtherBase) = some false)
    (n_BadDigits_BadReader : PySem.W.kitOne K (.ref cBadDigits) (.ref cBadReader) = some false)
    (n_BadDigits_TooMany : PySem.W.kitOne K (.ref cBadDigits) (.ref cTooMany) = some false)
    (i1_BadNumber : PySem.W.findIn K (.ref cBadNumber) "__getattribute__" = some (some (.builtin "BaseException.__getattribute__")))
    (i2_BadNumber : PySem.W.findIn K (.ref cBadNumber) "__getattr__" = some none)
    (i3_BadNumber : PySem.W.hasDictIn K cBadNumber = true)
    (i4_BadNumber : PySem.W.findIn K (.ref cBadNumber) "__class__" = some (some (.builtin "object.__class__")))
    (i5_BadNumber : PySem.W.mroIn K cBadNumber (.type "object") = some true)
    (i6_BadNumber : PySem.W.subIn K (.ref cBadNumber) (.ref cTermError) = some true)
    (i7_BadNumber : PySem.W.kitOne K (.ref cBadNumber) (.type "ValueError") = some true)
    (n_BadNumber_BadBase : PySem.W.kitOne K (.ref cBadNumber) (.ref cBadBase) = some false)
    (n_BadNumber_BadDigits : PySem.W.kitOne K (.ref cBadNumber) (.ref cBadDigits) = some false)
    (n_BadNumber_BadNumber : PySem.W.kitOne K (.ref cBadNumber) (.ref cBadNumber) = some true)
    (n_BadNumber_BadSteps : PySem.W.kitOne K (.ref cBadNumber) (.ref cBadSteps) = some false)
    (n_BadNumber_BadWay : PySem.W.kitOne K (.ref cBadNumber) (.ref cBadWay) = some false)
    (n_BadNumber_OtherBase : PySem.W.kitOne K (.ref cBadNumber) (.ref cOtherBase) = some false)
    (n_BadNumber_BadReader : PySem.W.kitOne K (.ref cBadNumber) (.ref cBadReader) = some false)
    (n_BadNumber_TooMany : PySem.W.kitOne K (.ref cBadNumber) (.ref cTooMany) = some false)
    (i1_BadSteps : PySem.W.findIn K (.ref cBadSteps) "__getattribute__" = some (some (.builtin "BaseException.__getattribute__")))
    (i2_BadSteps : PySem.W.findIn K (.ref cBadSteps) "__getattr__" = some none)
    (i3_BadSteps : PySem.W.hasDictIn K cBadSteps = true)
    (i4_BadSteps : PySem.W.findIn K (.ref cBadSteps) "__class__" = some (some (.builtin "object.__class__")))
    (i5_BadSteps : PySem.W.mroIn K cBadSteps (.type "object") = some true)
    (i6_BadSteps : PySem.W.subIn K (.ref cBadSteps) (.ref cTermError) = some true)
    (i7_BadSteps : PySem.W.kitOne K (.ref cBadSteps) (.type "ValueError") = some true)
    (n_BadSteps_BadBase : PySem.W.kitOne K (.ref cBadSteps) (.ref cBadBase) = some false)
    (n_BadSteps_BadDigits : PySem.W.kitOne K (.ref cBadSteps) (.ref cBadDigits) = some false)
    (n_BadSteps_BadNumber : PySem.W.kitOne K (.ref cBadSteps) (.ref cBadNumber) = some false)
    (n_BadSteps_BadSteps : PySem.W.kitOne K (.ref cBadSteps) (.ref cBadSteps) = some true)
    (n_BadSteps_BadWay : PySem.W.kitOne K (.ref cBadSteps) (.ref cBadWay) = some false)
    (n_BadSteps_OtherBase : PySem.W.kitOne K (.ref cBadSteps) (.ref cOtherBase) = some false)
    (n_BadSteps_BadReader : PySem.W.kitOne K (.ref cBadSteps) (.ref cBadReader) = some false)
    (n_BadSteps_TooMany : PySem.W.kitOne K (.ref cBadSteps) (.ref cTooMany) = some false)
    (i1_BadWay : PySem.W.findIn K (.ref cBadWay) "__getattribute__" = some (some (.builtin "BaseException.__getattribute__")))
    (i2_BadWay : PySem.W.findIn K (.ref cBadWay) "__getattr__" = some none)
    (i3_BadWay : PySem.W.hasDictIn K cBadWay = true)
    (i4_BadWay : PySem.W.findIn K (.ref cBadWay) "__class__" = some (some (.builtin "object.__class__")))
    (i5_BadWay : PySem.W.mroIn K cBadWay (.type "object") = some true)
    (i6_BadWay : PySem.W.subIn K (.ref cBadWay) (.ref cTermError) = some true)
    (i7_BadWay : PySem.W.kitOne K (.ref cBadWay) (.type "ValueError") = some true)
    (n_BadWay_BadBase : PySem.W.kitOne K (.ref cBadWay) (.ref cBadBase) = some false)
    (n_BadWay_BadDigits : PySem.W.kitOne K (.ref cBadWay) (.ref cBadDigits) = some false)
    (n_BadWay_BadNumber : PySem.W.kitOne K (.ref cBadWay) (.ref cBadNumber) = some false)
    (n_BadWay_BadSteps : PySem.W.kitOne K (.ref cBadWay) (.ref cBadSteps) = some false)
    (n_BadWay_BadWay : PySem.W.kitOne K (.ref cBadWay) (.ref cBadWay) = some true)
    (n_BadWay_OtherBase : PySem.W.kitOne K (.ref cBadWay) (.ref cOtherBase) = some false)
    (n_BadWay_BadReader : PySem.W.kitOne K (.ref cBadWay) (.ref cBadReader) = some false)
    (n_BadWay_TooMany : PySem.W.kitOne K (.ref cBadWay) (.ref cTooMany) = some false)
    (i1_OtherBase : PySem.W.findIn K (.ref cOtherBase) "__getattribute__" = some (some (.builtin "BaseException.__getattribute__")))
    (i2_OtherBase : PySem.W.findIn K (.ref cOtherBase) "__getattr__" = some none)
    (i3_OtherBase : PySem.W.hasDictIn K cOtherBase = true)
    (i4_OtherBase : PySem.W.findIn K (.ref cOtherBase) "__class__" = some (some (.builtin "object.__class__")))
    (i5_OtherBase : PySem.W.mroIn K cOtherBase (.type "object") = some true)
    (i6_OtherBase : PySem.W.subIn K (.ref cOtherBase) (.ref cTermError) = some true)
    (i7_OtherBase : PySem.W.kitOne K (.ref cOtherBase) (.type "ValueError") = some true)
    (n_OtherBase_BadBase : PySem.W.kitOne K (.ref cOtherBase) (.ref cBadBase) = some false)
    (n_OtherBase_BadDigits : PySem.W.kitOne K (.ref cOtherBase) (.ref cBadDigits) = some false)
    (n_OtherBase_BadNumber : PySem.W.kitOne K (.ref cOtherBase) (.ref cBadNumber) = some false)
    (n_OtherBase_BadSteps : PySem.W.kitOne K (.ref cOtherBase) (.ref cBadSteps) = some false)
    (n_OtherBase_BadWay : PySem.W.kitOne K (.ref cOtherBase) (.ref cBadWay) = some false)
    (n_OtherBase_OtherBase : PySem.W.kitOne K (.ref cOtherBase) (.ref cOtherBase) = some true)
    (n_OtherBase_BadReader : PySem.W.kitOne K (.ref cOtherBase) (.ref cBadReader) = some false)
    (n_OtherBase_TooMany : PySem.W.kitOne K (.ref cOtherBase) (.ref cTooMany) = some false)
    (i1_BadReader : PySem.W.findIn K (.ref cBadReader) "__getattribute__" = some (some (.builtin "BaseException.__getattribute__")))
    (i2_BadReader : PySem.W.findIn K (.ref cBadReader) "__getattr__" = some none)
    (i3_BadReader : PySem.W.hasDictIn K cBadReader = true)
    (i4_BadReader : PySem.W.findIn K (.ref cBadReader) "__class__" = some (some (.builtin "object.__class__")))
    (i5_BadReader : PySem.W.mroIn K cBadReader (.type "object") = some true)
    (i6_BadReader : PySem.W.subIn K (.ref cBadReader) (.ref cTermError) = some true)
    (i7_BadReader : PySem.W.kitOne K (.ref cBadReader) (.type "ValueError") = some true)
    (n_BadReader_BadBase : PySem.W.kitOne K (.ref cBadReader) (.ref cBadBase) = some false)
    (n_BadReader_BadDigits : PySem.W.kitOne K (.ref cBadReader) (.ref cBadDigits) = some false)
    (n_BadReader_BadNumber : PySem.W.kitOne K (.ref cBadReader) (.ref cBadNumber) = some false)
    (n_BadReader_BadSteps : PySem.W.kitOne K (.ref cBadReader) (.ref cBadSteps) = some false)
    (n_BadReader_BadWay : PySem.W.kitOne K (.ref cBadReader) (.ref cBadWay) = some false)
    (n_BadReader_OtherBase : PySem.W.kitOne K (.ref cBadReader) (.ref cOtherBase) = some false)
    (n_BadReader_BadReader : PySem.W.kitOne K (.ref cBadReader) (.ref cBadReader) = some true)
    (n_BadReader_TooMany : PySem.W.kitOne K (.ref cBadReader) (.ref cTooMany) = some false)
    (i1_TooMany : PySem.W.findIn K (.ref cTooMany) "__getattribute__" = some (some (.builtin "BaseException.__getattribute__")))
    (i2_TooMany : PySem.W.findIn K (.ref cTooMany) "__getattr__" = some none)
    (i3_TooMany : PySem.W.hasDictIn K cTooMany = true)
    (i4_TooMany : PySem.W.findIn K (.ref cTooMany) "__class__" = some (some (.builtin "object.__class__")))
    (i5_TooMany : PySem.W.mroIn K cTooMany (.type "object") = some true)
    (i6_TooMany : PySem.W.subIn K (.ref cTooMany) (.ref cTermError) = some true)
    (i7_TooMany : PySem.W.kitOne K (.ref cTooMany) (.type "ValueError") = some true)
    (n_TooMany_BadBase : PySem.W.kitOne K (.ref cTooMany) (.ref cBadBase) = some false)
    (n_TooMany_BadDigits : PySem.W.kitOne K (.ref cTooMany) (.ref cBadDigits) = some false)
    (n_TooMany_BadNumber : PySem.W.kitOne K (.ref cTooMany) (.ref cBadNumber) = some false)
    (n_TooMany_BadSteps : PySem.W.kitOne K (.ref cTooMany) (.ref cBadSteps) = some false)
    (n_TooMany_BadWay : PySem.W.kitOne K (.ref cTooMany) (.ref cBadWay) = some false)
    (n_TooMany_OtherBase : PySem.W.kitOne K (.ref cTooMany) (.ref cOtherBase) = some false)
    (n_TooMany_BadReader : PySem.W.kitOne K (.ref cTooMany) (.ref cBadReader) = some false)
    (n_TooMany_TooMany : PySem.W.kitOne K (.ref cTooMany) (.ref cTooMany) = some true) :
    LamX.LawAtS l w K (L2.CX l.prog w) 9 63 "script" mg fa h := by
  have e := hfa.symm.trans (PySem.W.mg_of X G a_law)
  cases e
  have T : Txt K mg cBadBase cBadDigits cBadNumber cBadSteps cBadWay cOtherBase cBadReader cTooMany := { z_ValueError := PySem.W.mg_none_of X G z_ValueError, z_abs := PySem.W.mg_none_of X G z_abs, z_all := PySem.W.mg_none_of X G z_all, z_bool := PySem.W.mg_none_of X G z_bool, z_int := PySem.W.mg_none_of X G z_int, z_isinstance := PySem.W.mg_none_of X G z_isinstance, z_len := PySem.W.mg_none_of X G z_len, z_list := PySem.W.mg_none_of X G z_list, z_max := PySem.W.mg_none_of X G z_max, z_min := PySem.W.mg_none_of X G z_min, z_range := PySem.W.mg_none_of X G z_range, z_reversed := PySem.W.mg_none_of X G z_reversed, z_str := PySem.W.mg_none_of X G z_str, z_sum := PySem.W.mg_none_of X G z_sum, z_tuple := PySem.W.mg_none_of X G z_tuple, z_zip := PySem.W.mg_none_of X G z_zip, k_MOST_NUMBER := ⟨_, PySem.W.mg_of X G k_MOST_NUMBER⟩, k_MOST_PRIME := ⟨_, PySem.W.mg_of X G k_MOST_PRIME⟩, e_BadBase := ⟨PySem.W.mg_of X G g_BadBase, x_BadBase, p_BadBase, b_BadBase, t_BadBase⟩, e_BadDigits := ⟨PySem.W.mg_of X G g_BadDigits, x_BadDigits, p_BadDigits, b_BadDigits, t_BadDigits⟩, e_BadNumber := ⟨PySem.W.mg_of X G g_BadNumber, x_BadNumber, p_BadNumber, b_BadNumber, t_BadNumber⟩, e_BadSteps := ⟨PySem.W.mg_of X G g_BadSteps, x_BadSteps, p_BadSteps, b_BadSteps, t_BadSteps⟩, e_BadWay := ⟨PySem.W.mg_of X G g_BadWay, x_BadWay, p_BadWay, b_BadWay, t_BadWay⟩, e_OtherBase := ⟨PySem.W.mg_of X G g_OtherBase, x_OtherBase, p_OtherBase, b_OtherBase, t_OtherBase⟩, e_BadReader := ⟨PySem.W.mg_of X G g_BadReader⟩, e_TooMany := ⟨PySem.W.mg_of X G g_TooMany⟩ }
  have I_BadBase : ErrI K cBadBase cTermError := ⟨⟨i1_BadBase, i2_BadBase, b_BadBase, i3_BadBase, i4_BadBase, o_sp, o_tk, i5_BadBase⟩, PySem.W.exm_ref b_TermError d_TermError t_TermError i6_BadBase, i7_BadBase⟩
  have I_BadDigits : ErrI K cBadDigits cTermError := ⟨⟨i1_BadDigits, i2_BadDigits, b_BadDigits, i3_BadDigits, i4_BadDigits, o_sp, o_tk, i5_BadDigits⟩, PySem.W.exm_ref b_TermError d_TermError t_TermError i6_BadDigits, i7_BadDigits⟩
  have I_BadNumber : ErrI K cBadNumber cTermError := ⟨⟨i1_BadNumber, i2_BadNumber, b_BadNumber, i3_BadNumber, i4_BadNumber, o_sp, o_tk, i5_BadNumber⟩, PySem.W.exm_ref b_TermError d_TermError t_TermError i6_BadNumber, i7_BadNumber⟩
  have I_BadSteps : ErrI K cBadSteps cTermError := ⟨⟨i1_BadSteps, i2_BadSteps, b_BadSteps, i3_BadSteps, i4_BadSteps, o_sp, o_tk, i5_BadSteps⟩, PySem.W.exm_ref b_TermError d_TermError t_TermError i6_BadSteps, i7_BadSteps⟩
  have I_BadWay : ErrI K cBadWay cTermError := ⟨⟨i1_BadWay, i2_BadWay, b_BadWay, i3_BadWay, i4_BadWay, o_sp, o_tk, i5_BadWay⟩, PySem.W.exm_ref b_TermError d_TermError t_TermError i6_BadWay, i7_BadWay⟩
  have I_OtherBase : ErrI K cOtherBase cTermError := ⟨⟨i1_OtherBase, i2_OtherBase, b_OtherBase, i3_OtherBase, i4_OtherBase, o_sp, o_tk, i5_OtherBase⟩, PySem.W.exm_ref b_TermError d_TermError t_TermError i6_OtherBase, i7_OtherBase⟩
  have I_BadReader : ErrI K cBadReader cTermError := ⟨⟨i1_BadReader, i2_BadReader, b_BadReader, i3_BadReader, i4_BadReader, o_sp, o_tk, i5_BadReader⟩, PySem.W.exm_ref b_TermError d_TermError t_TermError i6_BadReader, i7_BadReader⟩
  have I_TooMany : ErrI K cTooMany cTermError := ⟨⟨i1_TooMany, i2_TooMany, b_TooMany, i3_TooMany, i4_TooMany, o_sp, o_tk, i5_TooMany⟩, PySem.W.exm_ref b_TermError d_TermError t_TermError i6_TooMany, i7_TooMany⟩
  have F_is_integer := fun_mk (st := s_is_integer) l_is_integer c_is_integer q_is_integer
  have B_is_integer := F_is_integer.binds (ps := ["thing"]) fun _ _ _ _ _ _ us hl => match us, hl with | [_], _ => rfl
  have F_check_numbers := fun_mk (st := s_check_numbers) l_check_numbers c_check_numbers q_check_numbers
  have B_check_numbers := F_check_numbers.binds (ps := ["numbers"]) fun _ _ _ _ _ _ us hl => match us, hl with | [_], _ => rfl
  have F_is_within := fun_mk (st := s_is_within) l_is_within c_is_within q_is_within
  have B_is_within := F_is_within.binds (ps := ["thing", "low", "high"]) fun _ _ _ _ _ _ us hl => match us, hl with | [_, _, _], _ => rfl
  have F_primes_of := fun_mk (st := s_primes_of) l_primes_of c_primes_of q_primes_of
  have B_primes_of := F_primes_of.binds (ps := ["number"]) fun _ _ _ _ _ _ us hl => match us, hl with | [_], _ => rfl
  have F_is_prime := fun_mk (st := s_is_prime) l_is_prime c_is_prime q_is_prime
  have B_is_prime := F_is_prime.binds (ps := ["number"]) fun _ _ _ _ _ _ us hl => match us, hl with | [_], _ => rfl
  have F_check_prime := fun_mk (st := s_check_prime) l_check_prime c_check_prime q_check_prime
  have B_check_prime := F_check_prime.binds (ps := ["prime"]) fun _ _ _ _ _ _ us hl => match us, hl with | [_], _ => rfl
  have F_carries_of := fun_mk (st := s_carries_of) l_carries_of c_carries_of q_carries_of
  have B_carries_of := F_carries_of.binds (ps := ["one", "other", "base"]) fun _ _ _ _ _ _ us hl => match us, hl with | [_, _, _], _ => rfl
  have F_often_in_choices := fun_mk (st := s_often_in_choices) l_often_in_choices c_often_in_choices q_often_in_choices
  have B_often_in_choices := F_often_in_choices.binds (ps := ["many", "some", "prime"]) fun _ _ _ _ _ _ us hl => match us, hl with | [_, _, _], _ => rfl
  have F_often_in_product := fun_mk (st := s_often_in_product) l_often_in_product c_often_in_product q_often_in_product
  have B_often_in_product := F_often_in_product.binds (ps := ["number", "prime"]) fun _ _ _ _ _ _ us hl => match us, hl with | [_, _], _ => rfl
  have F_product_to := fun_mk (st := s_product_to) l_product_to c_product_to q_product_to
  have B_product_to := F_product_to.binds (ps := ["number"]) fun _ _ _ _ _ _ us hl => match us, hl with | [_], _ => rfl
  have F_rest_of_product := fun_mk (st := s_rest_of_product) l_rest_of_product c_rest_of_product q_rest_of_product
  have B_rest_of_product := F_rest_of_product.binds (ps := ["number", "prime"]) fun _ _ _ _ _ _ us hl => match us, hl with | [_, _], _ => rfl
  have F_last_figure_of_product := fun_mk (st := s_last_figure_of_product) l_last_figure_of_product c_last_figure_of_product q_last_figure_of_product
  have B_last_figure_of_product := F_last_figure_of_product.binds (ps := ["number"]) fun _ _ _ _ _ _ us hl => match us, hl with | [_], _ => rfl
  have F_zeros_of_product := fun_mk (st := s_zeros_of_product) l_zeros_of_product c_zeros_of_product q_zeros_of_product
  have B_zeros_of_product := F_zeros_of_product.binds (ps := ["number", "base"]) fun _ _ _ _ _ _ us hl => match us, hl with | [_, _], _ => rfl
  have F__law_hand := fun_mk (st := s__law_hand) l__law_hand c__law_hand q__law_hand
  have B__law_hand := F__law_hand.binds (ps := ["script"]) fun _ _ _ _ _ _ us hl => match us, hl with | [_], _ => rfl
  have F__law_is := fun_mk (st := s__law_is) l__law_is c__law_is q__law_is
  have B__law_is := F__law_is.binds (ps := ["answer", "due"]) fun _ _ _ _ _ _ us hl => match us, hl with | [_, _], _ => rfl
  have F_carry_number := fun_mk (st := s_carry_number) l_carry_number c_carry_number q_carry_number
  have B_carry_number := F_carry_number.binds (ps := ["one", "other", "base"]) fun _ _ _ _ _ _ us hl => match us, hl with | [_, _, _], _ => rfl
  have F_often_in := fun_mk (st := s_often_in) l_often_in c_often_in q_often_in
  have B_often_in := F_often_in.binds (ps := ["number", "prime"]) fun _ _ _ _ _ _ us hl => match us, hl with | [_, _], _ => rfl
  have F_figures_of := fun_mk (st := s_figures_of) l_figures_of c_figures_of q_figures_of
  have B_figures_of := F_figures_of.binds (ps := ["number", "base"]) fun _ _ _ _ _ _ us hl => match us, hl with | [_, _], _ => rfl
  have F_often_by_figures := fun_mk (st := s_often_by_figures) l_often_by_figures c_often_by_figures q_often_by_figures
  have B_often_by_figures := F_often_by_figures.binds (ps := ["number", "prime"]) fun _ _ _ _ _ _ us hl => match us, hl with | [_, _], _ => rfl
  have F__law_draw := fun_mk (st := s__law_draw) l__law_draw c__law_draw q__law_draw
  have B__law_draw := F__law_draw.binds (ps := ["hand", "many"]) fun _ _ _ _ _ _ us hl => match us, hl with | [_, _], _ => rfl
  have F__law_any := fun_mk (st := s__law_any) l__law_any c__law_any q__law_any
  have B__law_any := F__law_any.binds (ps := ["hand", "some"]) fun _ _ _ _ _ _ us hl => match us, hl with | [_, _], _ => rfl
  have F__law_prime := fun_mk (st := s__law_prime) l__law_prime c__law_prime q__law_prime
  have B__law_prime := F__law_prime.binds (ps := ["hand", "great"]) fun _ _ _ _ _ _ us hl => match us, hl with | [_, _], _ => rfl
  have F__law_great := fun_mk (st := s__law_great) l__law_great c__law_great q__law_great
  have B__law_great := F__law_great.binds (ps := ["hand"]) fun _ _ _ _ _ _ us hl => match us, hl with | [_], _ => rfl
  have F__law_often := fun_mk (st := s__law_often) l__law_often c__law_often q__law_often
  have B__law_often := F__law_often.binds (ps := ["number", "prime"]) fun _ _ _ _ _ _ us hl => match us, hl with | [_, _], _ => rfl
  have F__law_in_product := fun_mk (st := s__law_in_product) l__law_in_product c__law_in_product q__law_in_product
  have B__law_in_product := F__law_in_product.binds (ps := ["number", "prime"]) fun _ _ _ _ _ _ us hl => match us, hl with | [_, _], _ => rfl
  have F__law_zeros := fun_mk (st := s__law_zeros) l__law_zeros c__law_zeros q__law_zeros
  have B__law_zeros := F__law_zeros.binds (ps := ["number", "base"]) fun _ _ _ _ _ _ us hl => match us, hl with | [_, _], _ => rfl
  have F__law_carry_number := fun_mk (st := s__law_carry_number) l__law_carry_number c__law_carry_number q__law_carry_number
  have B__law_carry_number := F__law_carry_number.binds (ps := ["one", "other", "base"]) fun _ _ _ _ _ _ us hl => match us, hl with | [_, _, _], _ => rfl
  have F__law_is_right := fun_mk (st := s__law_is_right) l__law_is_right c__law_is_right q__law_is_right
  have B__law_is_right := F__law_is_right.binds (ps := ["hand"]) fun _ _ _ _ _ _ us hl => match us, hl with | [_], _ => rfl
  have F__law_product := fun_mk (st := s__law_product) l__law_product c__law_product q__law_product
  have B__law_product := F__law_product.binds (ps := ["number"]) fun _ _ _ _ _ _ us hl => match us, hl with | [_], _ => rfl
  have F__law_rest := fun_mk (st := s__law_rest) l__law_rest c__law_rest q__law_rest
  have B__law_rest := F__law_rest.binds (ps := ["number", "prime"]) fun _ _ _ _ _ _ us hl => match us, hl with | [_, _], _ => rfl
  have F__law_last := fun_mk (st := s__law_last) l__law_last c__law_last q__law_last
  have B__law_last := F__law_last.binds (ps := ["number"]) fun _ _ _ _ _ _ us hl => match us, hl with | [_], _ => rfl
  have F__law_are_rests_right := fun_mk (st := s__law_are_rests_right) l__law_are_rests_right c__law_are_rests_right q__law_are_rests_right
  have B__law_are_rests_right := F__law_are_rests_right.binds (ps := ["hand"]) fun _ _ _ _ _ _ us hl => match us, hl with | [_], _ => rfl
  have F__law_word := fun_mk (st := s__law_word) l__law_word c__law_word q__law_word
  have B__law_word := F__law_word.binds (ps := ["call"]) fun _ _ _ _ _ _ us hl => match us, hl with | [_], _ => rfl
  have F__law_no_number := fun_mk (st := s__law_no_number) l__law_no_number c__law_no_number q__law_no_number
  have B__law_no_number := F__law_no_number.binds (ps := ["hand"]) fun _ _ _ _ _ _ us hl => match us, hl with | [_], _ => rfl
  have F__law_are_refused_right := fun_mk (st := s__law_are_refused_right) l__law_are_refused_right c__law_are_refused_right q__law_are_refused_right
  have B__law_are_refused_right := F__law_are_refused_right.binds (ps := ["hand"]) fun _ _ _ _ _ _ us hl => match us, hl with | [_], _ => rfl
  have F_law := fun_mk (st := s_law) l_law c_law q_law
  refine law_atL (S := S_law) (fd := PySem.W.fnOf "law" "law" (defArgs s_law) (defBody s_law) (defScope s_law) .none kV_law dc_law pm_law an_law cd_law ct_law) [(cl__law_are_refused_right, P__law_are_refused_right, "_law_are_refused_right.<locals>.<lambda>")] w_tab X (fun t ht => by rw [List.mem_singleton.mp ht]; exact w_none__law_are_refused_right) (fun t ht => by rw [List.mem_singleton.mp ht]; exact w_code__law_are_refused_right) (fun s v => .of_eq rfl) (fun ns hl Qd Ed h => S_law_in ns hl Qd Ed h) fun base _ _ TBs => ?_
  have TBc__law_are_refused_right := TBs (cl__law_are_refused_right, P__law_are_refused_right, "_law_are_refused_right.<locals>.<lambda>") List.mem_cons_self
  have hm__law_are_refused_right : (P__law_are_refused_right, ("_law_are_refused_right.<locals>.<lambda>" : Str)) ∈ ([(P__law_are_refused_right, "_law_are_refused_right.<locals>.<lambda>")] : List (Addr × Str)) := List.mem_cons_self
  have hu__law_are_refused_right : ∀ p ∈ ([(P__law_are_refused_right, "_law_are_refused_right.<locals>.<lambda>")] : List (Addr × Str)), p.1 = P__law_are_refused_right → p.2 = ("_law_are_refused_right.<locals>.<lambda>" : Str) := fun p hp _ => by rw [List.mem_singleton.mp hp]
  have D_is_integer : Dfn l.prog w K mg base "is_integer" 1 (spA K [(P__law_are_refused_right, "_law_are_refused_right.<locals>.<lambda>")] 1 S_is_integer) := ⟨_, _, _, fn_A (P := l.prog) (w := w) (base := base) (k := 0) F_is_integer sc_is_integer rfl (fun cdv A outer s H E hr => tm_is_integer T  cdv A outer s H E hr) hd_is_integer, PySem.W.mg_of X G a_is_integer, q_is_integer, B_is_integer⟩
  have D_check_numbers : Dfn l.prog w K mg base "check_numbers" 2 (spA K [(P__law_are_refused_right, "_law_are_refused_right.<locals>.<lambda>")] 1 (S_check_numbers cBadNumber)) := ⟨_, _, _, fn_A (P := l.prog) (w := w) (base := base) (k := 1) F_check_numbers sc_check_numbers rfl (fun cdv A outer s H E hr => tm_check_numbers T D_is_integer cdv A outer s H E hr) (hd_check_numbers _), PySem.W.mg_of X G a_check_numbers, q_check_numbers, B_check_numbers⟩
  have D_is_within : Dfn l.prog w K mg base "is_within" 2 (spA K [(P__law_are_refused_right, "_law_are_refused_right.<locals>.<lambda>")] 3 S_is_within) := ⟨_, _, _, fn_A (P := l.prog) (w := w) (base := base) (k := 1) F_is_within sc_is_within rfl (fun cdv A outer s H E hr => tm_is_within T D_is_integer cdv A outer s H E hr) hd_is_within, PySem.W.mg_of X G a_is_within, q_is_within, B_is_within⟩
  have D_primes_of : Dfn l.prog w K mg base "primes_of" 1 (spA K [(P__law_are_refused_right, "_law_are_refused_right.<locals>.<lambda>")] 1 S_primes_of) := ⟨_, _, _, fn_A (P := l.prog) (w := w) (base := base) (k := 0) F_primes_of sc_primes_of rfl (fun cdv A outer s H E hr => tm_primes_of T  cdv A outer s H E hr) hd_primes_of, PySem.W.mg_of X G a_primes_of, q_primes_of, B_primes_of⟩
  have D_is_prime : Dfn l.prog w K mg base "is_prime" 2 (spA K [(P__law_are_refused_right, "_law_are_refused_right.<locals>.<lambda>")] 1 S_is_prime) := ⟨_, _, _, fn_A (P := l.prog) (w := w) (base := base) (k := 1) F_is_prime sc_is_prime rfl (fun cdv A outer s H E hr => tm_is_prime T D_primes_of cdv A outer s H E hr) hd_is_prime, PySem.W.mg_of X G a_is_prime, q_is_prime, B_is_prime⟩
  have D_check_prime : Dfn l.prog w K mg base "check_prime" 3 (spA K [(P__law_are_refused_right, "_law_are_refused_right.<locals>.<lambda>")] 1 (S_check_prime cBadBase)) := ⟨_, _, _, fn_A (P := l.prog) (w := w) (base := base) (k := 2) F_check_prime sc_check_prime rfl (fun cdv A outer s H E hr => tm_check_prime T D_is_prime D_is_within cdv A outer s H E hr) (hd_check_prime _), PySem.W.mg_of X G a_check_prime, q_check_prime, B_check_prime⟩
  have D_carries_of : Dfn l.prog w K mg base "carries_of" 1 (spA K [(P__law_are_refused_right, "_law_are_refused_right.<locals>.<lambda>")] 3 S_carries_of) := ⟨_, _, _, fn_A (P := l.prog) (w := w) (base := base) (k := 0) F_carries_of sc_carries_of rfl (fun cdv A outer s H E hr => tm_carries_of T  cdv A outer s H E hr) hd_carries_of, PySem.W.mg_of X G a_carries_of, q_carries_of, B_carries_of⟩
  have D_often_in_choices : Dfn l.prog w K mg base "often_in_choices" 4 (spA K [(P__law_are_refused_right, "_law_are_refused_right.<locals>.<lambda>")] 3 (S_often_in_choices cBadBase cBadNumber)) := ⟨_, _, _, fn_A (P := l.prog) (w := w) (base := base) (k := 3) F_often_in_choices sc_often_in_choices rfl (fun cdv A outer s H E hr => tm_often_in_choices T D_carries_of D_check_numbers D_check_prime cdv A outer s H E hr) (hd_often_in_choices _ _), PySem.W.mg_of X G a_often_in_choices, q_often_in_choices, B_often_in_choices⟩
  have D_often_in_product : Dfn l.prog w K mg base "often_in_product" 4 (spA K [(P__law_are_refused_right, "_law_are_refused_right.<locals>.<lambda>")] 2 (S_often_in_product cBadBase cBadNumber)) := ⟨_, _, _, fn_A (P := l.prog) (w := w) (base := base) (k := 3) F_often_in_product sc_often_in_product rfl (fun cdv A outer s H E hr => tm_often_in_product T D_check_numbers D_check_prime cdv A outer s H E hr) (hd_often_in_product _ _), PySem.W.mg_of X G a_often_in_product, q_often_in_product, B_often_in_product⟩
  have D_product_to : Dfn l.prog w K mg base "product_to" 1 (spA K [(P__law_are_refused_right, "_law_are_refused_right.<locals>.<lambda>")] 1 S_product_to) := ⟨_, _, _, fn_A (P := l.prog) (w := w) (base := base) (k := 0) F_product_to sc_product_to rfl (fun cdv A outer s H E hr => tm_product_to T  cdv A outer s H E hr) hd_product_to, PySem.W.mg_of X G a_product_to, q_product_to, B_product_to⟩
  have D_rest_of_product : Dfn l.prog w K mg base "rest_of_product" 4 (spA K [(P__law_are_refused_right, "_law_are_refused_right.<locals>.<lambda>")] 2 (S_rest_of_product cBadBase cBadNumber)) := ⟨_, _, _, fn_A (P := l.prog) (w := w) (base := base) (k := 3) F_rest_of_product sc_rest_of_product rfl (fun cdv A outer s H E hr => tm_rest_of_product T D_check_numbers D_check_prime D_product_to cdv A outer s H E hr) (hd_rest_of_product _ _), PySem.W.mg_of X G a_rest_of_product, q_rest_of_product, B_rest_of_product⟩
  have D_last_figure_of_product : Dfn l.prog w K mg base "last_figure_of_product" 5 (spA K [(P__law_are_refused_right, "_law_are_refused_right.<locals>.<lambda>")] 1 (S_last_figure_of_product cBadBase cBadNumber)) := ⟨_, _, _, fn_A (P := l.prog) (w := w) (base := base) (k := 4) F_last_figure_of_product sc_last_figure_of_product rfl (fun cdv A outer s H E hr => tm_last_figure_of_product T D_check_numbers D_often_in_product D_rest_of_product cdv A outer s H E hr) (hd_last_figure_of_product _ _), PySem.W.mg_of X G a_last_figure_of_product, q_last_figure_of_product, B_last_figure_of_product⟩
  have D_zeros_of_product : Dfn l.prog w K mg base "zeros_of_product" 5 (spA K [(P__law_are_refused_right, "_law_are_refused_right.<locals>.<lambda>")] 2 (S_zeros_of_product cBadBase cBadNumber)) := ⟨_, _, _, fn_A (P := l.prog) (w := w) (base := base) (k := 4) F_zeros_of_product sc_zeros_of_product rfl (fun cdv A outer s H E hr => tm_zeros_of_product T D_check_numbers D_is_within D_often_in_product cdv A outer s H E hr) (hd_zeros_of_product _ _), PySem.W.mg_of X G a_zeros_of_product, q_zeros_of_product, B_zeros_of_product⟩
  have D__law_hand : Dfn l.prog w K mg base "_law_hand" 1 (spA K [(P__law_are_refused_right, "_law_are_refused_right.<locals>.<lambda>")] 1 S__law_hand) := ⟨_, _, _, fn_A (P := l.prog) (w := w) (base := base) (k := 0) F__law_hand sc__law_hand rfl (fun cdv A outer s H E hr => tm__law_hand T  cdv A outer s H E hr) hd__law_hand, PySem.W.mg_of X G a__law_hand, q__law_hand, B__law_hand⟩
  have R__law_is : ∀ rn : Nat, Dfn l.prog w K mg base "_law_is" (1 + rn) (spA K [(P__law_are_refused_right, "_law_are_refused_right.<locals>.<lambda>")] 2 (S__law_is rn)) := fun rn => by
    induction rn with
    | zero => exact ⟨_, _, _, fn_false (fun _ _ _ h => h), PySem.W.mg_of X G a__law_is, q__law_is, B__law_is⟩
    | succ rn ih => exact ⟨_, _, _, fn_A (P := l.prog) (w := w) (base := base) (k := 1 + rn) F__law_is sc__law_is rfl (fun cdv A outer s H E hr => tm__law_is T (by omega) ih cdv A outer s H E hr) (hd__law_is rn ), PySem.W.mg_of X G a__law_is, q__law_is, B__law_is⟩
  have D__law_is : Dfn l.prog w K mg base "_law_is" 5 (spA K [(P__law_are_refused_right, "_law_are_refused_right.<locals>.<lambda>")] 2 (S__law_is 4)) := R__law_is 4
  have D_carry_number : Dfn l.prog w K mg base "carry_number" 3 (spA K [(P__law_are_refused_right, "_law_are_refused_right.<locals>.<lambda>")] 3 (S_carry_number cBadBase cBadNumber)) := ⟨_, _, _, fn_A (P := l.prog) (w := w) (base := base) (k := 2) F_carry_number sc_carry_number rfl (fun cdv A outer s H E hr => tm_carry_number T D_carries_of D_check_numbers D_is_within cdv A outer s H E hr) (hd_carry_number _ _), PySem.W.mg_of X G a_carry_number, q_carry_number, B_carry_number⟩
  have D_often_in : Dfn l.prog w K mg base "often_in" 4 (spA K [(P__law_are_refused_right, "_law_are_refused_right.<locals>.<lambda>")] 2 (S_often_in cBadBase cBadNumber)) := ⟨_, _, _, fn_A (P := l.prog) (w := w) (base := base) (k := 3) F_often_in sc_often_in rfl (fun cdv A outer s H E hr => tm_often_in T D_check_prime D_is_integer cdv A outer s H E hr) (hd_often_in _ _), PySem.W.mg_of X G a_often_in, q_often_in, B_often_in⟩
  have D_figures_of : Dfn l.prog w K mg base "figures_of" 1 (spA K [(P__law_are_refused_right, "_law_are_refused_right.<locals>.<lambda>")] 2 S_figures_of) := ⟨_, _, _, fn_A (P := l.prog) (w := w) (base := base) (k := 0) F_figures_of sc_figures_of rfl (fun cdv A outer s H E hr => tm_figures_of T  cdv A outer s H E hr) hd_figures_of, PySem.W.mg_of X G a_figures_of, q_figures_of, B_figures_of⟩
  have D_often_by_figures : Dfn l.prog w K mg base "often_by_figures" 4 (spA K [(P__law_are_refused_right, "_law_are_refused_right.<locals>.<lambda>")] 2 (S_often_by_figures cBadBase cBadNumber)) := ⟨_, _, _, fn_A (P := l.prog) (w := w) (base := base) (k := 3) F_often_by_figures sc_often_by_figures rfl (fun cdv A outer s H E hr => tm_often_by_figures T D_check_numbers D_check_prime D_figures_of cdv A outer s H E hr) (hd_often_by_figures _ _), PySem.W.mg_of X G a_often_by_figures, q_often_by_figures, B_often_by_figures⟩
  have D__law_draw : Dfn l.prog w K mg base "_law_draw" 1 (spB K [(P__law_are_refused_right, "_law_are_refused_right.<locals>.<lambda>")] 2 S__law_draw) := ⟨_, _, _, fn_B (P := l.prog) (w := w) (base := base) (k := 0) F__law_draw sc__law_draw rfl (fun cdv A outer s H E hr => tm__law_draw T  cdv A outer s H E hr) hd__law_draw, PySem.W.mg_of X G a__law_draw, q__law_draw, B__law_draw⟩
  have D__law_any : Dfn l.prog w K mg base "_law_any" 2 (spB K [(P__law_are_refused_right, "_law_are_refused_right.<locals>.<lambda>")] 2 S__law_any) := ⟨_, _, _, fn_B (P := l.prog) (w := w) (base := base) (k := 1) F__law_any sc__law_any rfl (fun cdv A outer s H E hr => tm__law_any T D__law_draw cdv A outer s H E hr) hd__law_any, PySem.W.mg_of X G a__law_any, q__law_any, B__law_any⟩
  have D__law_prime : Dfn l.prog w K mg base "_law_prime" 3 (spB K [(P__law_are_refused_right, "_law_are_refused_right.<locals>.<lambda>")] 2 S__law_prime) := ⟨_, _, _, fn_B (P := l.prog) (w := w) (base := base) (k := 2) F__law_prime sc__law_prime rfl (fun cdv A outer s H E hr => tm__law_prime T D__law_any cdv A outer s H E hr) hd__law_prime, PySem.W.mg_of X G a__law_prime, q__law_prime, B__law_prime⟩
  have D__law_great : Dfn l.prog w K mg base "_law_great" 3 (spB K [(P__law_are_refused_right, "_law_are_refused_right.<locals>.<lambda>")] 1 S__law_great) := ⟨_, _, _, fn_B (P := l.prog) (w := w) (base := base) (k := 2) F__law_great sc__law_great rfl (fun cdv A outer s H E hr => tm__law_great T D__law_any D__law_draw cdv A outer s H E hr) hd__law_great, PySem.W.mg_of X G a__law_great, q__law_great, B__law_great⟩
  have D__law_often : Dfn l.prog w K mg base "_law_often" 1 (spA K [(P__law_are_refused_right, "_law_are_refused_right.<locals>.<lambda>")] 2 S__law_often) := ⟨_, _, _, fn_A (P := l.prog) (w := w) (base := base) (k := 0) F__law_often sc__law_often rfl (fun cdv A outer s H E hr => tm__law_often T  cdv A outer s H E hr) hd__law_often, PySem.W.mg_of X G a__law_often, q__law_often, B__law_often⟩
  have D__law_in_product : Dfn l.prog w K mg base "_law_in_product" 1 (spA K [(P__law_are_refused_right, "_law_are_refused_right.<locals>.<lambda>")] 2 S__law_in_product) := ⟨_, _, _, fn_A (P := l.prog) (w := w) (base := base) (k := 0) F__law_in_product sc__law_in_product rfl (fun cdv A outer s H E hr => tm__law_in_product T  cdv A outer s H E hr) hd__law_in_product, PySem.W.mg_of X G a__law_in_product, q__law_in_product, B__law_in_product⟩
  have D__law_zeros : Dfn l.prog w K mg base "_law_zeros" 2 (spA K [(P__law_are_refused_right, "_law_are_refused_right.<locals>.<lambda>")] 2 S__law_zeros) := ⟨_, _, _, fn_A (P := l.prog) (w := w) (base := base) (k := 1) F__law_zeros sc__law_zeros rfl (fun cdv A outer s H E hr => tm__law_zeros T D__law_in_product D__law_often cdv A outer s H E hr) hd__law_zeros, PySem.W.mg_of X G a__law_zeros, q__law_zeros, B__law_zeros⟩
  have D__law_carry_number : Dfn l.prog w K mg base "_law_carry_number" 1 (spA K [(P__law_are_refused_right, "_law_are_refused_right.<locals>.<lambda>")] 3 S__law_carry_number) := ⟨_, _, _, fn_A (P := l.prog) (w := w) (base := base) (k := 0) F__law_carry_number sc__law_carry_number rfl (fun cdv A outer s H E hr => tm__law_carry_number T  cdv A outer s H E hr) hd__law_carry_number, PySem.W.mg_of X G a__law_carry_number, q__law_carry_number, B__law_carry_number⟩
  have D__law_is_right : Dfn l.prog w K mg base "_law_is_right" 6 (spB K [(P__law_are_refused_right, "_law_are_refused_right.<locals>.<lambda>")] 1 S__law_is_right) := ⟨_, _, _, fn_B (P := l.prog) (w := w) (base := base) (k := 5) F__law_is_right sc__law_is_right rfl (fun cdv A outer s H E hr => tm__law_is_right T D__law_any D__law_carry_number D__law_draw D__law_great D__law_in_product D__law_is D__law_often D__law_prime D__law_zeros D_carry_number D_often_by_figures D_often_in D_often_in_choices D_often_in_product D_zeros_of_product cdv A outer s H E hr) (hd__law_is_right _ _), PySem.W.mg_of X G a__law_is_right, q__law_is_right, B__law_is_right⟩
  have D__law_product : Dfn l.prog w K mg base "_law_product" 1 (spA K [(P__law_are_refused_right, "_law_are_refused_right.<locals>.<lambda>")] 1 S__law_product) := ⟨_, _, _, fn_A (P := l.prog) (w := w) (base := base) (k := 0) F__law_product sc__law_product rfl (fun cdv A outer s H E hr => tm__law_product T  cdv A outer s H E hr) hd__law_product, PySem.W.mg_of X G a__law_product, q__law_product, B__law_product⟩
  have D__law_rest : Dfn l.prog w K mg base "_law_rest" 1 (spA K [(P__law_are_refused_right, "_law_are_refused_right.<locals>.<lambda>")] 2 S__law_rest) := ⟨_, _, _, fn_A (P := l.prog) (w := w) (base := base) (k := 0) F__law_rest sc__law_rest rfl (fun cdv A outer s H E hr => tm__law_rest T  cdv A outer s H E hr) hd__law_rest, PySem.W.mg_of X G a__law_rest, q__law_rest, B__law_rest⟩
  have D__law_last : Dfn l.prog w K mg base "_law_last" 1 (spA K [(P__law_are_refused_right, "_law_are_refused_right.<locals>.<lambda>")] 1 S__law_last) := ⟨_, _, _, fn_A (P := l.prog) (w := w) (base := base) (k := 0) F__law_last sc__law_last rfl (fun cdv A outer s H E hr => tm__law_last T  cdv A outer s H E hr) hd__law_last, PySem.W.mg_of X G a__law_last, q__law_last, B__law_last⟩
  have D__law_are_rests_right : Dfn l.prog w K mg base "_law_are_rests_right" 6 (spB K [(P__law_are_refused_right, "_law_are_refused_right.<locals>.<lambda>")] 1 S__law_are_rests_right) := ⟨_, _, _, fn_B (P := l.prog) (w := w) (base := base) (k := 5) F__law_are_rests_right sc__law_are_rests_right rfl (fun cdv A outer s H E hr => tm__law_are_rests_right T D__law_any D__law_draw D__law_great D__law_is D__law_last D__law_often D__law_prime D__law_product D__law_rest D_last_figure_of_product D_often_in_product D_rest_of_product cdv A outer s H E hr) (hd__law_are_rests_right _ _), PySem.W.mg_of X G a__law_are_rests_right, q__law_are_rests_right, B__law_are_rests_right⟩
  have L__law_word__law_are_refused_right : Tel l.prog w K [(P__law_are_refused_right, "_law_are_refused_right.<locals>.<lambda>")] mg base "_law_word" "_law_are_refused_right.<locals>.<lambda>" (fe__law_word cBadBase cBadDigits cBadNumber cBadSteps cBadWay cOtherBase cBadReader cTooMany) fr__law_word := tel__law_word T (PySem.W.mg_of X G g_TermError) (PySem.W.mg_of X G a__law_word) q__law_word l__law_word c__law_word B__law_word (hd__law_word I_BadBase I_BadDigits I_BadNumber I_BadSteps I_BadWay I_OtherBase I_BadReader I_TooMany n_BadBase_BadBase n_BadBase_BadDigits n_BadBase_BadNumber n_BadBase_BadSteps n_BadBase_BadWay n_BadBase_OtherBase n_BadBase_BadReader n_BadBase_TooMany n_BadDigits_BadBase n_BadDigits_BadDigits n_BadDigits_BadNumber n_BadDigits_BadSteps n_BadDigits_BadWay n_BadDigits_OtherBase n_BadDigits_BadReader n_BadDigits_TooMany n_BadNumber_BadBase n_BadNumber_BadDigits n_BadNumber_BadNumber n_BadNumber_BadSteps n_BadNumber_BadWay n_BadNumber_OtherBase n_BadNumber_BadReader n_BadNumber_TooMany n_BadSteps_BadBase n_BadSteps_BadDigits n_BadSteps_BadNumber n_BadSteps_BadSteps n_BadSteps_BadWay n_BadSteps_OtherBase n_BadSteps_BadReader n_BadSteps_TooMany n_BadWay_BadBase n_BadWay_BadDigits n_BadWay_BadNumber n_BadWay_BadSteps n_BadWay_BadWay n_BadWay_OtherBase n_BadWay_BadReader n_BadWay_TooMany n_OtherBase_BadBase n_OtherBase_BadDigits n_OtherBase_BadNumber n_OtherBase_BadSteps n_OtherBase_BadWay n_OtherBase_OtherBase n_OtherBase_BadReader n_OtherBase_TooMany n_BadReader_BadBase n_BadReader_BadDigits n_BadReader_BadNumber n_BadReader_BadSteps n_BadReader_BadWay n_BadReader_OtherBase n_BadReader_BadReader n_BadReader_TooMany n_TooMany_BadBase n_TooMany_BadDigits n_TooMany_BadNumber n_TooMany_BadSteps n_TooMany_BadWay n_TooMany_OtherBase n_TooMany_BadReader n_TooMany_TooMany) hn__law_word
  have D__law_no_number : Dfn l.prog w K mg base "_law_no_number" 3 (spB K [(P__law_are_refused_right, "_law_are_refused_right.<locals>.<lambda>")] 1 S__law_no_number) := ⟨_, _, _, fn_B (P := l.prog) (w := w) (base := base) (k := 2) F__law_no_number sc__law_no_number rfl (fun cdv A outer s H E hr => tm__law_no_number T D__law_any cdv A outer s H E hr) hd__law_no_number, PySem.W.mg_of X G a__law_no_number, q__law_no_number, B__law_no_number⟩
  have D__law_are_refused_right : Dfn l.prog w K mg base "_law_are_refused_right" 8 (spB K [(P__law_are_refused_right, "_law_are_refused_right.<locals>.<lambda>")] 1 S__law_are_refused_right) := ⟨_, _, _, fn_Bc (P := l.prog) (w := w) (base := base) (k := 7) l__law_are_refused_right c__law_are_refused_right sc__law_are_refused_right rfl (fun A outer s H E hr => tm__law_are_refused_right T D__law_any D__law_no_number D_carry_number D_last_figure_of_product D_often_by_figures D_often_in D_often_in_choices D_often_in_product D_rest_of_product D_zeros_of_product L__law_word__law_are_refused_right TBc__law_are_refused_right hm__law_are_refused_right hu__law_are_refused_right A outer s H E hr) (hd__law_are_refused_right _ _ _ _ _ _ _ _), PySem.W.mg_of X G a__law_are_refused_right, q__law_are_refused_right, B__law_are_refused_right⟩
  exact fn_A (P := l.prog) (w := w) (base := base) (k := 8) F_law sc_law rfl (fun cdv A outer s H E hr => tm_law T D__law_are_refused_right D__law_are_rests_right D__law_hand D__law_is D__law_is_right D_last_figure_of_product D_often_in_choices D_zeros_of_product cdv A outer s H E hr) (hd_law _ _)
end K36
open PySem PySem.W PyProof.Rows
set_option maxRecDepth 100000 in
set_option maxHeartbeats 0 in
theorem PySem.Challenge.cw_nextterms_k36_whole_primes_in_products_holds : PySem.Challenge.rw_nextterms_k36_whole_primes_in_products.Holds := by
  w_on; o_law; k_head; (case hw => w_witness2)
  k_fill
  refine LamX.walk_ofTs (l := PySem.Challenge.rw_nextterms_k36_whole_primes_in_products) (n := 63) (k := 9) (x := "script") (CX := fun w => L2.CX PySem.Challenge.rw_nextterms_k36_whole_primes_in_products.prog w) rfl (by decide) rfl ⟨rfl, by decide, by decide⟩ (fun w h Y => PySem.W.km_in_of Y) ?F (fun _ _ _ _ _ h => DL.cx_none h)
  case F =>
    intro w mg fa h Y KX G hmg
    refine' K36.all_mk KX G hmg ?a_is_integer ?l_is_integer ?c_is_integer ?q_is_integer ?a_check_numbers ?l_check_numbers ?c_check_numbers ?q_check_numbers ?a_is_within ?l_is_within ?c_is_within ?q_is_within ?a_primes_of ?l_primes_of ?c_primes_of ?q_primes_of ?a_is_prime ?l_is_prime ?c_is_prime ?q_is_prime ?a_check_prime ?l_check_prime ?c_check_prime ?q_check_prime ?a_carries_of ?l_carries_of ?c_carries_of ?q_carries_of ?a_often_in_choices ?l_often_in_choices ?c_often_in_choices ?q_often_in_choices ?a_often_in_product ?l_often_in_product ?c_often_in_product ?q_often_in_product ?a_product_to ?l_product_to ?c_product_to ?q_product_to ?a_rest_of_product ?l_rest_of_product ?c_rest_of_product ?q_rest_of_product ?a_last_figure_of_product ?l_last_figure_of_product ?c_last_figure_of_product ?q_last_figure_of_product ?a_zeros_of_product ?l_zeros_of_product ?c_zeros_of_product ?q_zeros_of_product ?a__law_hand ?l__law_hand ?c__law_hand ?q__law_hand ?a__law_is ?l__law_is ?c__law_is ?q__law_is ?a_carry_number ?l_carry_number ?c_carry_number ?q_carry_number ?a_often_in ?l_often_in ?c_often_in ?q_often_in ?a_figures_of ?l_figures_of ?c_figures_of ?q_figures_of ?a_often_by_figures ?l_often_by_figures ?c_often_by_figures ?q_often_by_figures ?a__law_draw ?l__law_draw ?c__law_draw ?q__law_draw ?a__law_any ?l__law_any ?c__law_any ?q__law_any ?a__law_prime ?l__law_prime ?c__law_prime ?q__law_prime ?a__law_great ?l__law_great ?c__law_great ?q__law_great ?a__law_often ?l__law_often ?c__law_often ?q__law_often ?a__law_in_product ?l__law_in_product ?c__law_in_product ?q__law_in_product ?a__law_zeros ?l__law_zeros ?c__law_zeros ?q__law_zeros ?a__law_carry_number ?l__law_carry_number ?c__law_carry_number ?q__law_carry_number ?a__law_is_right ?l__law_is_right ?c__law_is_right ?q__law_is_right ?a__law_product ?l__law_product ?c__law_product ?q__law_product ?a__law_rest ?l__law_rest ?c__law_rest ?q__law_rest ?a__law_last ?l__law_last ?c__law_last ?q__law_last ?a__law_are_rests_right ?l__law_are_rests_right ?c__law_are_rests_right ?q__law_are_rests_right ?a__law_word ?l__law_word ?c__law_word ?q__law_word ?a__law_no_number ?l__law_no_number ?c__law_no_number ?q__law_no_number ?a__law_are_refused_right ?l__law_are_refused_right ?c__law_are_refused_right ?q__law_are_refused_right ?a_law ?l_law ?c_law ?q_law ?z_ValueError ?z_abs ?z_all ?z_bool ?z_int ?z_isinstance ?z_len ?z_list ?z_max ?z_min ?z_range ?z_reversed ?z_str ?z_sum ?z_tuple ?z_zip ?k_MOST_NUMBER ?k_MOST_PRIME ?g_BadBase ?x_BadBase ?p_BadBase ?b_BadBase ?t_BadBase ?g_BadDigits ?x_BadDigits ?p_BadDigits ?b_BadDigits ?t_BadDigits ?g_BadNumber ?x_BadNumber ?p_BadNumber ?b_BadNumber ?t_BadNumber ?g_BadSteps ?x_BadSteps ?p_BadSteps ?b_BadSteps ?t_BadSteps ?g_BadWay ?x_BadWay ?p_BadWay ?b_BadWay ?t_BadWay ?g_OtherBase ?x_OtherBase ?p_OtherBase ?b_OtherBase ?t_OtherBase ?g_BadReader ?p_BadReader ?b_BadReader ?t_BadReader ?g_TooMany ?p_TooMany ?b_TooMany ?t_TooMany ?w_tab ?w_code__law_are_refused_right ?w_none__law_are_refused_right ?g_TermError ?b_TermError ?d_TermError ?t_TermError ?o_sp ?o_tk ?i1_BadBase ?i2_BadBase ?i3_BadBase ?i4_BadBase ?i5_BadBase ?i6_BadBase ?i7_BadBase ?n_BadBase_BadBase ?n_BadBase_BadDigits ?n_BadBase_BadNumber ?n_BadBase_BadSteps ?n_BadBase_BadWay ?n_BadBase_OtherBase ?n_BadBase_BadReader ?n_BadBase_TooMany ?i1_BadDigits ?i2_BadDigits ?i3_BadDigits ?i4_BadDigits ?i5_BadDigits ?i6_BadDigits ?i7_BadDigits ?n_BadDigits_BadBase ?n_BadDigits_BadDigits ?n_BadDigits_BadNumber ?n_BadDigits_BadSteps ?n_BadDigits_BadWay ?n_BadDigits_OtherBase ?n_BadDigits_BadReader ?n_BadDigits_TooMany ?i1_BadNumber ?i2_BadNumber ?i3_BadNumber ?i4_BadNumber ?i5_BadNumber ?i6_BadNumber ?i7_BadNumber ?n_BadNumber_BadBase ?n_BadNumber_BadDigits ?n_BadNumber_BadNumber ?n_BadNumber_BadSteps ?n_BadNumber_BadWay ?n_BadNumber_OtherBase ?n_BadNumber_BadReader ?n_BadNumber_TooMany ?i1_BadSteps ?i2_BadSteps ?i3_BadSteps ?i4_BadSteps ?i5_BadSteps ?i6_BadSteps ?i7_BadSteps ?n_BadSteps_BadBase ?n_BadSteps_BadDigits ?n_BadSteps_BadNumber ?n_BadSteps_BadSteps ?n_BadSteps_BadWay ?n_BadSteps_OtherBase ?n_BadSteps_BadReader ?n_BadSteps_TooMany ?i1_BadWay ?i2_BadWay ?i3_BadWay ?i4_BadWay ?i5_BadWay ?i6_BadWay ?i7_BadWay ?n_BadWay_BadBase ?n_BadWay_BadDigits ?n_BadWay_BadNumber ?n_BadWay_BadSteps ?n_BadWay_BadWay ?n_BadWay_OtherBase ?n_BadWay_BadReader ?n_BadWay_TooMany ?i1_OtherBase ?i2_OtherBase ?i3_OtherBase ?i4_OtherBase ?i5_OtherBase ?i6_OtherBase ?i7_OtherBase ?n_OtherBase_BadBase ?n_OtherBase_BadDigits ?n_OtherBase_BadNumber ?n_OtherBase_BadSteps ?n_OtherBase_BadWay ?n_OtherBase_OtherBase ?n_OtherBase_BadReader ?n_OtherBase_TooMany ?i1_BadReader ?i2_BadReader ?i3_BadReader ?i4_BadReader ?i5_BadReader ?i6_BadReader ?i7_BadReader ?n_BadReader_BadBase ?n_BadReader_BadDigits ?n_BadReader_BadNumber ?n_BadReader_BadSteps ?n_BadReader_BadWay ?n_BadReader_OtherBase ?n_BadReader_BadReader ?n_BadReader_TooMany ?i1_TooMany ?i2_TooMany ?i3_TooMany ?i4_TooMany ?i5_TooMany ?i6_TooMany ?i7_TooMany ?n_TooMany_BadBase ?n_TooMany_BadDigits ?n_TooMany_BadNumber ?n_TooMany_BadSteps ?n_TooMany_BadWay ?n_TooMany_OtherBase ?n_TooMany_BadReader ?n_TooMany_TooMany
    (case a_is_integer => k_is)
    (case l_is_integer => k_is)
    (case c_is_integer => k_is)
    (case q_is_integer => k_is)
    (case a_check_numbers => k_is)
    (case l_check_numbers => k_is)
    (case c_check_numbers => k_is)
    (case q_check_numbers => k_is)
    (case a_is_within => k_is)
    (case l_is_within => k_is)
    (case c_is_within => k_is)
    (case q_is_within => k_is)
    (case a_primes_of => k_is)
    (case l_primes_of => k_is)
    (case c_primes_of => k_is)
    (case q_primes_of => k_is)
    (case a_is_prime => k_is)
    (case l_is_prime => k_is)
    (case c_is_prime => k_is)
    (case q_is_prime => k_is)
    (case a_check_prime => k_is)
    (case l_check_prime => k_is)
    (case c_check_prime => k_is)
    (case q_check_prime => k_is)
    (case a_carries_of => k_is)
    (case l_carries_of => k_is)
    (case c_carries_of => k_is)
    (case q_carries_of => k_is)
    (case a_often_in_choices => k_is)
    (case l_often_in_choices => k_is)
    (case c_often_in_choices => k_is)
    (case q_often_in_choices => k_is)
    (case a_often_in_product => k_is)
    (case l_often_in_product => k_is)
    (case c_often_in_product => k_is)
    (case q_often_in_product => k_is)
    (case a_product_to => k_is)
    (case l_product_to => k_is)
    (case c_product_to => k_is)
    (case q_product_to => k_is)
    (case a_rest_of_product => k_is)
    (case l_rest_of_product => k_is)
    (case c_rest_of_product => k_is)
    (case q_rest_of_product => k_is)
    (case a_last_figure_of_product => k_is)
    (case l_last_figure_of_product => k_is)
    (case c_last_figure_of_product => k_is)
    (case q_last_figure_of_product => k_is)
    (case a_zeros_of_product => k_is)
    (case l_zeros_of_product => k_is)
    (case c_zeros_of_product => k_is)
    (case q_zeros_of_product => k_is)
    (case a__law_hand => k_is)
    (case l__law_hand => k_is)
    (case c__law_hand => k_is)
    (case q__law_hand => k_is)
    (case a__law_is => k_is)
    (case l__law_is => k_is)
    (case c__law_is => k_is)
    (case q__law_is => k_is)
    (case a_carry_number => k_is)
    (case l_carry_number => k_is)
    (case c_carry_number => k_is)
    (case q_carry_number => k_is)
    (case a_often_in => k_is)
    (case l_often_in => k_is)
    (case c_often_in => k_is)
    (case q_often_in => k_is)
    (case a_figures_of => k_is)
    (case l_figures_of => k_is)
    (case c_figures_of => k_is)
    (case q_figures_of => k_is)
    (case a_often_by_figures => k_is)
    (case l_often_by_figures => k_is)
    (case c_often_by_figures => k_is)
    (case q_often_by_figures => k_is)
    (case a__law_draw => k_is)
    (case l__law_draw => k_is)
    (case c__law_draw => k_is)
    (case q__law_draw => k_is)
    (case a__law_any => k_is)
    (case l__law_any => k_is)
    (case c__law_any => k_is)
    (case q__law_any => k_is)
    (case a__law_prime => k_is)
    (case l__law_prime => k_is)
    (case c__law_prime => k_is)
    (case q__law_prime => k_is)
    (case a__law_great => k_is)
    (case l__law_great => k_is)
    (case c__law_great => k_is)
    (case q__law_great => k_is)
    (case a__law_often => k_is)
    (case l__law_often => k_is)
    (case c__law_often => k_is)
    (case q__law_often => k_is)
    (case a__law_in_product => k_is)
    (case l__law_in_product => k_is)
    (case c__law_in_product => k_is)
    (case q__law_in_product => k_is)
    (case a__law_zeros => k_is)
    (case l__law_zeros => k_is)
    (case c__law_zeros => k_is)
    (case q__law_zeros => k_is)
    (case a__law_carry_number => k_is)
    (case l__law_carry_number => k_is)
    (case c__law_carry_number => k_is)
    (case q__law_carry_number => k_is)
    (case a__law_is_right => k_is)
    (case l__law_is_right => k_is)
    (case c__law_is_right => k_is)
    (case q__law_is_right => k_is)
    (case a__law_product => k_is)
    (case l__law_product => k_is)
    (case c__law_product => k_is)
    (case q__law_product => k_is)
    (case a__law_rest => k_is)
    (case l__law_rest => k_is)
    (case c__law_rest => k_is)
    (case q__law_rest => k_is)
    (case a__law_last => k_is)
    (case l__law_last => k_is)
    (case c__law_last => k_is)
    (case q__law_last => k_is)
    (case a__law_are_rests_right => k_is)
    (case l__law_are_rests_right => k_is)
    (case c__law_are_rests_right => k_is)
    (case q__law_are_rests_right => k_is)
    (case a__law_word => k_is)
    (case l__law_word => k_is)
    (case c__law_word => k_is)
    (case q__law_word => k_is)
    (case a__law_no_number => k_is)
    (case l__law_no_number => k_is)
    (case c__law_no_number => k_is)
    (case q__law_no_number => k_is)
    (case a__law_are_refused_right => k_is)
    (case l__law_are_refused_right => k_is)
    (case c__law_are_refused_right => k_is)
    (case q__law_are_refused_right => k_is)
    (case a_law => k_is)
    (case l_law => k_is)
    (case c_law => k_is)
    (case q_law => k_is)
    (case z_ValueError => k_is)
    (case z_abs => k_is)
    (case z_all => k_is)
    (case z_bool => k_is)
    (case z_int => k_is)
    (case z_isinstance => k_is)
    (case z_len => k_is)
    (case z_list => k_is)
    (case z_max => k_is)
    (case z_min => k_is)
    (case z_range => k_is)
    (case z_reversed => k_is)
    (case z_str => k_is)
    (case z_sum => k_is)
    (case z_tuple => k_is)
    (case z_zip => k_is)
    (case k_MOST_NUMBER => k_is)
    (case k_MOST_PRIME => k_is)
    (case g_BadBase => k_is)
    (case x_BadBase => k_exc)
    (case p_BadBase => k_is)
    (case b_BadBase => k_is)
    (case t_BadBase => k_is)
    (case g_BadDigits => k_is)
    (case x_BadDigits => k_exc)
    (case p_BadDigits => k_is)
    (case b_BadDigits => k_is)
    (case t_BadDigits => k_is)
    (case g_BadNumber => k_is)
    (case x_BadNumber => k_exc)
    (case p_BadNumber => k_is)
    (case b_BadNumber => k_is)
    (case t_BadNumber => k_is)
    (case g_BadSteps => k_is)
    (case x_BadSteps => k_exc)
    (case p_BadSteps => k_is)
    (case b_BadSteps => k_is)
    (case t_BadSteps => k_is)
    (case g_BadWay => k_is)
    (case x_BadWay => k_exc)
    (case p_BadWay => k_is)
    (case b_BadWay => k_is)
    (case t_BadWay => k_is)
    (case g_OtherBase => k_is)
    (case x_OtherBase => k_exc)
    (case p_OtherBase => k_is)
    (case b_OtherBase => k_is)
    (case t_OtherBase => k_is)
    (case g_BadReader => k_is)
    (case p_BadReader => k_is)
    (case b_BadReader => k_is)
    (case t_BadReader => k_is)
    (case g_TooMany => k_is)
    (case p_TooMany => k_is)
    (case b_TooMany => k_is)
    (case t_TooMany => k_is)
    (case w_tab => exact PySem.W.km_tabs_of Y)
    (case g_TermError => k_is)
    (case b_TermError => k_is)
    (case d_TermError => k_is)
    (case t_TermError => k_is)
    (case o_sp => k_is)
    (case o_tk => k_is)
    (case i1_BadBase => k_is)
    (case i2_BadBase => k_is)
    (case i3_BadBase => k_is)
    (case i4_BadBase => k_is)
    (case i5_BadBase => k_is)
    (case i6_BadBase => k_is)
    (case i7_BadBase => kit_is)
    (case n_BadBase_BadBase => kit_is)
    (case n_BadBase_BadDigits => kit_is)
    (case n_BadBase_BadNumber => kit_is)
    (case n_BadBase_BadSteps => kit_is)
    (case n_BadBase_BadWay => kit_is)
    (case n_BadBase_OtherBase => kit_is)
    (case n_BadBase_BadReader => kit_is)
    (case n_BadBase_TooMany => kit_is)
    (case i1_BadDigits => k_is)
    (case i2_BadDigits => k_is)
    (case i3_BadDigits => k_is)
    (case i4_BadDigits => k_is)
    (case i5_BadDigits => k_is)
    (case i6_BadDigits => k_is)
    (case i7_BadDigits => kit_is)
    (case n_BadDigits_BadBase => kit_is)
    (case n_BadDigits_BadDigits => kit_is)
    (case n_BadDigits_BadNumber => kit_is)
    (case n_BadDigits_BadSteps => kit_is)
    (case n_BadDigits_BadWay => kit_is)
    (case n_BadDigits_OtherBase => kit_is)
    (case n_BadDigits_BadReader => kit_is)
    (case n_BadDigits_TooMany => kit_is)
    (case i1_BadNumber => k_is)
    (case i2_BadNumber => k_is)
    (case i3_BadNumber => k_is)
    (case i4_BadNumber => k_is)
    (case i5_BadNumber => k_is)
    (case i6_BadNumber => k_is)
    (case i7_BadNumber => kit_is)
    (case n_BadNumber_BadBase => kit_is)
    (case n_BadNumber_BadDigits => kit_is)
    (case n_BadNumber_BadNumber => kit_is)
    (case n_BadNumber_BadSteps => kit_is)
    (case n_BadNumber_BadWay => kit_is)
    (case n_BadNumber_OtherBase => kit_is)
    (case n_BadNumber_BadReader => kit_is)
    (case n_BadNumber_TooMany => kit_is)
    (case i1_BadSteps => k_is)
    (case i2_BadSteps => k_is)
    (case i3_BadSteps => k_is)
    (case i4_BadSteps => k_is)
    (case i5_BadSteps => k_is)
    (case i6_BadSteps => k_is)
    (case i7_BadSteps => kit_is)
    (case n_BadSteps_BadBase => kit_is)
    (case n_BadSteps_BadDigits => kit_is)
    (case n_BadSteps_BadNumber => kit_is)
    (case n_BadSteps_BadSteps => kit_is)
    (case n_BadSteps_BadWay => kit_is)
    (case n_BadSteps_OtherBase => kit_is)
    (case n_BadSteps_BadReader => kit_is)
    (case n_BadSteps_TooMany => kit_is)
    (case i1_BadWay => k_is)
    (case i2_BadWay => k_is)
    (case i3_BadWay => k_is)
    (case i4_BadWay => k_is)
    (case i5_BadWay => k_is)
    (case i6_BadWay => k_is)
    (case i7_BadWay => kit_is)
    (case n_BadWay_BadBase => kit_is)
    (case n_BadWay_BadDigits => kit_is)
    (case n_BadWay_BadNumber => kit_is)
    (case n_BadWay_BadSteps => kit_is)
    (case n_BadWay_BadWay => kit_is)
    (case n_BadWay_OtherBase => kit_is)
    (case n_BadWay_BadReader => kit_is)
    (case n_BadWay_TooMany => kit_is)
    (case i1_OtherBase => k_is)
    (case i2_OtherBase => k_is)
    (case i3_OtherBase => k_is)
    (case i4_OtherBase => k_is)
    (case i5_OtherBase => k_is)
    (case i6_OtherBase => k_is)
    (case i7_OtherBase => kit_is)
    (case n_OtherBase_BadBase => kit_is)
    (case n_OtherBase_BadDigits => kit_is)
    (case n_OtherBase_BadNumber => kit_is)
    (case n_OtherBase_BadSteps => kit_is)
    (case n_OtherBase_BadWay => kit_is)
    (case n_OtherBase_OtherBase => kit_is)
    (case n_OtherBase_BadReader => kit_is)
    (case n_OtherBase_TooMany => kit_is)
    (case i1_BadReader => k_is)
    (case i2_BadReader => k_is)
    (case i3_BadReader => k_is)
    (case i4_BadReader => k_is)
    (case i5_BadReader => k_is)
    (case i6_BadReader => k_is)
    (case i7_BadReader => kit_is)
    (case n_BadReader_BadBase => kit_is)
    (case n_BadReader_BadDigits => kit_is)
    (case n_BadReader_BadNumber => kit_is)
    (case n_BadReader_BadSteps => kit_is)
    (case n_BadReader_BadWay => kit_is)
    (case n_BadReader_OtherBase => kit_is)
    (case n_BadReader_BadReader => kit_is)
    (case n_BadReader_TooMany => kit_is)
    (case i1_TooMany => k_is)
    (case i2_TooMany => k_is)
    (case i3_TooMany => k_is)
    (case i4_TooMany => k_is)
    (case i5_TooMany => k_is)
    (case i6_TooMany => k_is)
    (case i7_TooMany => kit_is)
    (case n_TooMany_BadBase => kit_is)
    (case n_TooMany_BadDigits => kit_is)
    (case n_TooMany_BadNumber => kit_is)
    (case n_TooMany_BadSteps => kit_is)
    (case n_TooMany_BadWay => kit_is)
    (case n_TooMany_OtherBase => kit_is)
    (case n_TooMany_BadReader => kit_is)
    (case n_TooMany_TooMany => kit_is)
    (case w_code__law_are_refused_right => kernel_rfl)
    (case w_none__law_are_refused_right => kernel_rfl)
