import PyProof.Rows.All
import Wide.All
import OpenK.AllK
import Wide.FinOn
import HandS.ForMost
import HandS.ForExc
import HandS.TupAny
import HandS.TupMul
import HandS.TupLe
import HandS.Deep
import HandS.Conv
import HandS.Zip
import HandS.TupSets
import HandS.IsInst
import HandS.CallSlots
import HandS.ExcCtx
import HandS.Star
import HandS.Defaults
import KE.KeyNested
import KE.KDictKeyed
import KE.KDictWalk
import KE.KDictDisplayH
import HandS.TupLen
import KE.GoesNew
import KE.GoesNewDict
import KE.GoesMore
import KE.GoesEnum
import HandS.Iter
import HandS.RevRange
import HandS.Comp
import HandS.SortRule
import HandS.SortInts
import HandS.Strs
import HandS.Style
import KE.KDictZip
import HandS.ExcValue
import HandS.Sort
import HandS.More
import HandS.HotCalls
import HandS.ExcIs
import HandS.GenBody
import HandS.GenYield
import PyProof.GenComp
import HandS.GenCall
import HandS.GenList
import PySem.Challenge.RW_wheelturns_k04_whole_ways_between_settin
set_option Elab.async false
set_option linter.all false
set_option maxRecDepth 100000
set_option maxHeartbeats 4000000
namespace Fx
open PySem PySem.Spec L2
open PyProof.Rows hiding St

/-- the world of a body: program, world, written part -/
structure Wd where
  P : Program
  w : World
  K : PySem.W.Frag
abbrev wd (X : Cx) : Wd := ⟨X.prog, X.w, X.K⟩

/-- what a local holds: data, a handle into the store, a frozen list of handles, a function or class -/
inductive W where
  | d (x : PyData) | h (n : Nat) | hs (ns : List Nat) | fn (a : Addr)
/-- the content of a mutable object -/
inductive MC where
  | lst (ds : List PyData) | dic (kvs : List (NestedKey × PyData))
structure MO where
  live : Bool
  c : MC
abbrev Sto := List MO
abbrev Lv := List (Option W)

/-- dict entries as they lie: the key, its address, the value -/
abbrev Ents := List (NestedKey × Addr × V)
def EntsRel (xs : Ents) (vs : List (NestedKey × Addr × Value)) : Prop :=
  Paired (fun (x : NestedKey × Addr × V) (y : NestedKey × Addr × Value) => x.1 = y.1 ∧ x.2.1 = y.2.1 ∧ RelV x.2.2 y.2.2) xs vs
def dicP (C : Wd) (a : Addr) (xs : Ents) (ep : Nat) (h : Heap) : Prop :=
  ∃ (o : Obj) (es : Array DictEntry) (vs : List (NestedKey × Addr × Value)), h.get? a = some o ∧ o.ExactDict ∧ o.data = .dict es ep ∧
    EntsRel xs vs ∧ es.toList = vs.map (entryOfKey (nestedKind C.P C.w)) ∧ (a == sysModules) = false
def dicO (C : Wd) (a : Addr) (xs : Ents) (ep : Nat) : HO := .ext (dicP C a xs ep)

mutual
/-- the value v is the data d, in the frozen heap G -/
inductive Dv (C : Wd) (G : Hp) : V → PyData → Prop
  | non : Dv C G .non .none
  | bl (b : Bool) : Dv C G (.bl b) (.bool b)
  | int (i : Int) : Dv C G (.int i) (.int i)
  | str (x : Str) : Dv C G (.str x) (.str x)
  | lst {a : Addr} {xs : List V} {ds : List PyData} : SqL C.K G a xs → DvAll C G xs ds → Dv C G (.ref a) (.list ds)
  | tup {a : Addr} {xs : List V} {ds : List PyData} : SqT C.K G a xs → DvAll C G xs ds → Dv C G (.ref a) (.tuple ds)
  | dic {a : Addr} {xs : Ents} {ep : Nat} {kvs : List (NestedKey × PyData)} : G a = some (dicO C a xs ep) → DvKv C G xs kvs → (kvs.map (·.1)).Nodup → Dv C G (.ref a) (.dict (kvs.map fun p => (p.1.data, p.2)))
inductive DvAll (C : Wd) (G : Hp) : List V → List PyData → Prop
  | nil : DvAll C G [] []
  | cons {v : V} {vs : List V} {d : PyData} {ds : List PyData} : Dv C G v d → DvAll C G vs ds → DvAll C G (v :: vs) (d :: ds)
inductive DvKv (C : Wd) (G : Hp) : Ents → List (NestedKey × PyData) → Prop
  | nil : DvKv C G [] []
  | cons {k : NestedKey} {b : Addr} {v : V} {d : PyData} {xs : Ents} {kvs : List (NestedKey × PyData)} : Dv C G (.ref b) k.data → k.depth ≤ 8 → Dv C G v d → DvKv C G xs kvs → DvKv C G ((k, b, v) :: xs) ((k, d) :: kvs)
end

/-- H' has all that H has -/
abbrev Le (G G' : Hp) : Prop := ∀ b o, G b = some o → G' b = some o
theorem Le.refl {G : Hp} : Le G G := fun _ _ h => h
theorem Le.trans {G G1 G2 : Hp} (a : Le G G1) (b : Le G1 G2) : Le G G2 := fun c o h => b c o (a c o h)
theorem Le.sqL {K : PySem.W.Frag} {G G' : Hp} {a : Addr} {xs : List V} (e : Le G G') (h : SqL K G a xs) : SqL K G' a xs := Same.seq e h
theorem Le.sqT {K : PySem.W.Frag} {G G' : Hp} {a : Addr} {xs : List V} (e : Le G G') (h : SqT K G a xs) : SqT K G' a xs := by
  rcases h with (h | ⟨o, h⟩) | h
  · exact .inl (.inl (e _ _ h))
  · exact .inl (.inr ⟨o, e _ _ h⟩)
  · exact .inr h
theorem Le.upd {G : Hp} {a : Addr} {o : HO} (h : G a = none) : Le G (upd G a o) := fun b u e => by rw [upd_ne (ne_of_none e h)]; exact e
theorem Le.upd2 {G H : Hp} {a : Addr} {o : HO} (e : Le G H) (h : G a = none) : Le (L2.upd G a o) (L2.upd H a o) := fun b u q => by
  by_cases hb : b = a
  · subst hb; rw [upd_same] at q ⊢; exact q
  · rw [upd_ne hb] at q ⊢; exact e _ _ q
theorem Le.rd {G G' : Hp} {a : Addr} {u : HO} (e : Le G G') (h : Rd G a u) : Rd G' a u := by
  rcases h with h | ⟨o, h⟩
  · exact .inl (e _ _ h)
  · exact .inr ⟨o, e _ _ h⟩
theorem Le.none {G H : Hp} {a : Addr} (e : Le G H) (h : H a = none) : G a = none := by
  cases q : G a with
  | none => rfl
  | some o => rw [e _ _ q] at h; cases h

section
variable {C : Wd} {G G' : Hp}
mutual
theorem Dv.le (e : Le G G') : ∀ {v : V} {d : PyData}, Dv C G v d → Dv C G' v d
  | _, _, .non => .non
  | _, _, .bl b => .bl b
  | _, _, .int i => .int i
  | _, _, .str x => .str x
  | _, _, .lst h r => .lst (e.sqL h) (DvAll.le e r)
  | _, _, .tup h r => .tup (e.sqT h) (DvAll.le e r)
  | _, _, .dic h r n => .dic (e _ _ h) (DvKv.le e r) n
theorem DvAll.le (e : Le G G') : ∀ {v : List V} {d : List PyData}, DvAll C G v d → DvAll C G' v d
  | _, _, .nil => .nil
  | _, _, .cons h r => .cons (Dv.le e h) (DvAll.le e r)
theorem DvKv.le (e : Le G G') : ∀ {xs : Ents} {kvs : List (NestedKey × PyData)}, DvKv C G xs kvs → DvKv C G' xs kvs
  | _, _, .nil => .nil
  | _, _, .cons h z q r => .cons (Dv.le e h) z (Dv.le e q) (DvKv.le e r)
end
theorem DvAll.length : ∀ {v : List V} {d : List PyData}, DvAll C G v d → v.length = d.length
  | _, _, .nil => rfl
  | _, _, .cons _ r => by simp [DvAll.length r]
theorem DvAll.get : ∀ {vs : List V} {ds : List PyData} {i : Nat} {d : PyData}, DvAll C G vs ds → ds[i]? = some d → ∃ v, vs[i]? = some v ∧ Dv C G v d
  | _, _, i, _, .nil, e => by simp at e
  | _, _, 0, _, .cons h _, e => by simp at e; subst e; exact ⟨_, rfl, h⟩
  | _, _, i + 1, _, .cons _ r, e => by
    obtain ⟨v, h1, h2⟩ := DvAll.get (i := i) r (by simpa using e)
    exact ⟨v, by simpa using h1, h2⟩
theorem DvAll.get' : ∀ {vs : List V} {ds : List PyData} {i : Nat} {v : V}, DvAll C G vs ds → vs[i]? = some v → ∃ d, ds[i]? = some d ∧ Dv C G v d
  | _, _, i, _, .nil, e => by simp at e
  | _, _, 0, _, .cons h _, e => by simp at e; subst e; exact ⟨_, rfl, h⟩
  | _, _, i + 1, _, .cons _ r, e => by
    obtain ⟨d, h1, h2⟩ := DvAll.get' (i := i) r (by simpa using e)
    exact ⟨d, by simpa using h1, h2⟩
theorem DvAll.append : ∀ {vs us : List V} {ds es : List PyData}, DvAll C G vs ds → DvAll C G us es → DvAll C G (vs ++ us) (ds ++ es)
  | _, _, _, _, .nil, s => s
  | _, _, _, _, .cons h r, s => .cons h (DvAll.append r s)
theorem DvAll.one {v : V} {d : PyData} (h : Dv C G v d) : DvAll C G [v] [d] := .cons h .nil
theorem DvAll.take : ∀ {vs : List V} {ds : List PyData} (n : Nat), DvAll C G vs ds → DvAll C G (vs.take n) (ds.take n)
  | _, _, 0, _ => .nil
  | _, _, _ + 1, .nil => .nil
  | _, _, n + 1, .cons h r => .cons h (DvAll.take n r)
theorem DvAll.drop : ∀ {vs : List V} {ds : List PyData} (n : Nat), DvAll C G vs ds → DvAll C G (vs.drop n) (ds.drop n)
  | _, _, 0, r => r
  | _, _, _ + 1, .nil => .nil
  | _, _, n + 1, .cons _ r => DvAll.drop n r
theorem DvAll.set {v : V} {d : PyData} (h : Dv C G v d) : ∀ {vs : List V} {ds : List PyData} (n : Nat), DvAll C G vs ds → DvAll C G (vs.set n v) (ds.set n d)
  | _, _, _, .nil => .nil
  | _, _, 0, .cons _ r => .cons h r
  | _, _, n + 1, .cons q r => .cons q (DvAll.set h n r)
theorem DvAll.nil_iff {vs : List V} {ds : List PyData} (r : DvAll C G vs ds) : vs = [] ↔ ds = [] := by cases r <;> simp
end

/-- the entry n of the store lies at a -/
def MOk (C : Wd) (G H : Hp) (a : Addr) : MO → Prop
  | ⟨true, .lst ds⟩ => G a = none ∧ ∃ vs, H a = some (.lst vs) ∧ DvAll C G vs ds
  | ⟨false, .lst ds⟩ => ∃ vs, G a = some (.lst vs) ∧ DvAll C G vs ds
  | ⟨true, .dic kvs⟩ => G a = none ∧ ∃ xs ep, H a = some (dicO C a xs ep) ∧ DvKv C G xs kvs ∧ (kvs.map (·.1)).Nodup
  | ⟨false, .dic kvs⟩ => ∃ xs ep, G a = some (dicO C a xs ep) ∧ DvKv C G xs kvs ∧ (kvs.map (·.1)).Nodup
/-- the store lies in the heap: ad the addresses of its entries -/
structure RepS (C : Wd) (G : Hp) (ad : List Addr) (st : Sto) (H : Hp) : Prop where
  sub : Le G H
  len : st.length = ad.length
  nd : ad.Nodup
  obj : ∀ (n : Nat) m a, st[n]? = some m → ad[n]? = some a → MOk C G H a m
/-- a local's value -/
inductive Wv (C : Wd) (G : Hp) (ad : List Addr) : V → W → Prop
  | d {v : V} {x : PyData} : Dv C G v x → Wv C G ad v (.d x)
  | h {n : Nat} {a : Addr} : ad[n]? = some a → Wv C G ad (.ref a) (.h n)
  | hs {a : Addr} {vs : List V} {ns : List Nat} : G a = some (.lst vs) → Paired (fun v n => ∃ b, ad[n]? = some b ∧ v = V.ref b) vs ns → Wv C G ad (.ref a) (.hs ns)
  | fn {a : Addr} : Wv C G ad (.ref a) (.fn a)
def RepL (C : Wd) (G : Hp) (ad : List Addr) (ρ : Lv) (σ : St) : Prop := ρ.length = σ.length ∧ ∀ (i : Nat) (w : W), ρ[i]? = some (some w) → ∃ v, σ[i]? = some (some v) ∧ Wv C G ad v w

/-- a step of the world -/
structure Step (G : Hp) (ad : List Addr) (H : Hp) (G' : Hp) (ad' : List Addr) (H' : Hp) : Prop where
  gle : Le G G'
  adp : ad <+: ad'
  keep : ∀ b o, H b = some o → b ∉ ad → H' b = some o
  new : ∀ a ∈ ad', a ∈ ad ∨ H a = none
  gnew : ∀ b o, G' b = some o → G b = some o ∨ H b = none ∨ b ∈ ad

theorem Step.refl {G : Hp} {ad : List Addr} {H : Hp} : Step G ad H G ad H := ⟨Le.refl, List.prefix_refl _, fun _ _ h _ => h, fun _ h => .inl h, fun _ _ h => .inl h⟩
theorem Step.trans {G G1 G2 : Hp} {ad ad1 ad2 : List Addr} {H H1 H2 : Hp} (a : Step G ad H G1 ad1 H1) (b : Step G1 ad1 H1 G2 ad2 H2) : Step G ad H G2 ad2 H2 where
  gle := a.gle.trans b.gle
  adp := a.adp.trans b.adp
  keep := fun c o h n => b.keep c o (a.keep c o h n) fun z => by
    rcases a.new c z with q | q
    · exact n q
    · rw [h] at q; cases q
  new := fun c z => by
    rcases b.new c z with q | q
    · exact a.new c q
    · by_cases hc : c ∈ ad
      · exact .inl hc
      · refine .inr ?_
        cases e : H c with
        | none => rfl
        | some o => rw [a.keep c o e hc] at q; cases q
  gnew := fun c o z => by
    by_cases hc : c ∈ ad
    · exact .inr (.inr hc)
    rcases b.gnew c o z with q | q | q
    · exact a.gnew c o q
    · refine .inr (.inl ?_)
      cases e : H c with
      | none => rfl
      | some o => rw [a.keep c o e hc] at q; cases q
    · rcases a.new c q with r | r
      · exact absurd r hc
      · exact .inr (.inl r)

theorem pre_get {α : Type} {l l' : List α} (p : l <+: l') {n : Nat} {a : α} (h : l[n]? = some a) : l'[n]? = some a := by
  obtain ⟨t, rfl⟩ := p
  obtain ⟨h1, h2⟩ := List.getElem?_eq_some_iff.mp h
  rw [List.getElem?_append_left h1, h]

section
variable {C : Wd} {G G' : Hp} {ad ad' : List Addr} {H H' : Hp} {st : Sto} {ρ : Lv} {σ : St}
theorem Paired.imp' {α β : Type} {F F' : α → β → Prop} (f : ∀ a b, F a b → F' a b) : ∀ {l : List α} {l' : List β}, Paired F l l' → Paired F' l l'
  | _, _, .nil => .nil
  | _, _, .cons h r => .cons (f _ _ h) (Paired.imp' f r)
theorem Wv.le (g : Le G G') (p : ad <+: ad') {v : V} {w : W} (h : Wv C G ad v w) : Wv C G' ad' v w := by
  cases h with
  | d h => exact .d (h.le g)
  | h e => exact .h (pre_get p e)
  | hs e r => exact .hs (g _ _ e) (Paired.imp' (fun v n ⟨b, e, q⟩ => ⟨b, pre_get p e, q⟩) r)
  | fn => exact .fn
theorem Wv.step (s : Step G ad H G' ad' H') {v : V} {w : W} (h : Wv C G ad v w) : Wv C G' ad' v w := h.le s.gle s.adp
theorem RepL.step (s : Step G ad H G' ad' H') (h : RepL C G ad ρ σ) : RepL C G' ad' ρ σ := ⟨h.1, fun i w e => let ⟨v, e1, r⟩ := h.2 i w e; ⟨v, e1, r.step s⟩⟩
theorem RepL.set (h : RepL C G ad ρ σ) {i : Nat} {v : V} {w : W} (r : Wv C G ad v w) : RepL C G ad (ρ.set i (some w)) (σ.set i (some v)) := by
  refine ⟨by simp [h.1], fun j u e => ?_⟩
  by_cases hj : i = j
  · subst hj
    by_cases hl : i < ρ.length
    · rw [List.getElem?_set_self hl] at e
      cases e
      exact ⟨v, by rw [List.getElem?_set_self (by rw [← h.1]; exact hl)], r⟩
    · rw [List.getElem?_eq_none (by simpa using hl)] at e; cases e
  · rw [List.getElem?_set_ne hj] at e
    obtain ⟨x, e1, q⟩ := h.2 j u e
    exact ⟨x, by rw [List.getElem?_set_ne hj]; exact e1, q⟩
/-- a new object that is frozen at once -/
theorem RepS.newG (r : RepS C G ad st H) {p : Addr} {o : HO} (hp : H p = none) : RepS C (upd G p o) ad st (upd H p o) := by
  have gp : G p = none := r.sub.none hp
  refine ⟨r.sub.upd2 gp, r.len, r.nd, fun n m a e1 e2 => ?_⟩
  have q := r.obj n m a e1 e2
  have le : Le G (upd G p o) := Le.upd gp
  obtain ⟨lv, c⟩ := m
  cases lv with
  | true =>
    cases c with
    | lst ds =>
      obtain ⟨q0, vs, q1, q2⟩ := q
      have hne : a ≠ p := ne_of_none q1 hp
      exact ⟨by rw [upd_ne hne]; exact q0, vs, by rw [upd_ne hne]; exact q1, q2.le le⟩
    | dic kvs =>
      obtain ⟨q0, xs, ep, q1, q2, q3⟩ := q
      have hne : a ≠ p := ne_of_none q1 hp
      exact ⟨by rw [upd_ne hne]; exact q0, xs, ep, by rw [upd_ne hne]; exact q1, q2.le le, q3⟩
  | false =>
    cases c with
    | lst ds =>
      obtain ⟨vs, q1, q2⟩ := q
      exact ⟨vs, le _ _ q1, q2.le le⟩
    | dic kvs =>
      obtain ⟨xs, ep, q1, q2, q3⟩ := q
      exact ⟨xs, ep, le _ _ q1, q2.le le, q3⟩
theorem Step.newG (r : RepS C G ad st H) {p : Addr} {o : HO} (hp : H p = none) : Step G ad H (upd G p o) ad (upd H p o) where
  gle := Le.upd (r.sub.none hp)
  adp := List.prefix_refl _
  keep := fun b u e _ => by rw [upd_ne (ne_of_none e hp)]; exact e
  new := fun _ h => .inl h
  gnew := fun b u e => by
    by_cases hb : b = p
    · subst hb; exact .inr (.inl hp)
    · rw [upd_ne hb] at e; exact .inl e
/-- every entry lies somewhere -/
theorem RepS.there (r : RepS C G ad st H) {a : Addr} (h : a ∈ ad) : ∃ o, H a = some o := by
  obtain ⟨n, hn, e⟩ := List.getElem_of_mem h
  have e2 : ad[n]? = some a := by rw [List.getElem?_eq_getElem hn, e]
  have hs : n < st.length := by rw [r.len]; exact hn
  have q := r.obj n st[n] a (List.getElem?_eq_getElem hs) e2
  generalize st[n] = m at q
  obtain ⟨lv, c⟩ := m
  cases lv with
  | true =>
    cases c with
    | lst ds => obtain ⟨_, vs, q1, _⟩ := q; exact ⟨_, q1⟩
    | dic kvs => obtain ⟨_, xs, ep, q1, _⟩ := q; exact ⟨_, q1⟩
  | false =>
    cases c with
    | lst ds => obtain ⟨vs, q1, _⟩ := q; exact ⟨_, r.sub _ _ q1⟩
    | dic kvs => obtain ⟨xs, ep, q1, _⟩ := q; exact ⟨_, r.sub _ _ q1⟩
/-- a new object behind a handle -/
theorem RepS.newH (r : RepS C G ad st H) {p : Addr} {o : HO} {c : MC} (hp : H p = none) (ok : MOk C G (upd H p o) p ⟨true, c⟩) : RepS C G (ad ++ [p]) (st ++ [⟨true, c⟩]) (upd H p o) := by
  have gp : G p = none := r.sub.none hp
  have np : p ∉ ad := fun z => by obtain ⟨o, e⟩ := r.there z; rw [hp] at e; cases e
  refine ⟨fun b u e => ?_, by simp [r.len], ?_, fun n m a e1 e2 => ?_⟩
  · have := r.sub b u e
    rw [upd_ne (ne_of_none this hp)]; exact this
  · rw [List.nodup_append]
    refine ⟨r.nd, by simp, fun a ha b hb => ?_⟩
    simp only [List.mem_singleton] at hb
    subst hb; intro z; subst z; exact np ha
  · by_cases hn : n < ad.length
    · rw [List.getElem?_append_left hn] at e2
      rw [List.getElem?_append_left (by rw [r.len]; exact hn)] at e1
      have q := r.obj n m a e1 e2
      obtain ⟨lv, c⟩ := m
      cases lv with
      | true =>
        cases c with
        | lst ds =>
          obtain ⟨q0, vs, q1, q2⟩ := q
          exact ⟨q0, vs, by rw [upd_ne (ne_of_none q1 hp)]; exact q1, q2⟩
        | dic kvs =>
          obtain ⟨q0, xs, ep, q1, q2, q3⟩ := q
          exact ⟨q0, xs, ep, by rw [upd_ne (ne_of_none q1 hp)]; exact q1, q2, q3⟩
      | false => cases c <;> exact q
    · have hn2 : n = ad.length := by
        have := (List.getElem?_eq_some_iff.mp e2).1
        simp at this; omega
      subst hn2
      have ea : a = p := by simpa using e2.symm
      have em : m = ⟨true, c⟩ := by rw [← r.len] at e1; simpa using e1.symm
      subst ea em
      exact ok
theorem Step.newH {p : Addr} {o : HO} (hp : H p = none) : Step G ad H G (ad ++ [p]) (upd H p o) where
  gle := Le.refl
  adp := List.prefix_append _ _
  keep := fun b u e _ => by rw [upd_ne (ne_of_none e hp)]; exact e
  new := fun a h => by
    rcases List.mem_append.mp h with q | q
    · exact .inl q
    · simp only [List.mem_singleton] at q; subst q; exact .inr hp
  gnew := fun _ _ e => .inl e
/-- an entry is written -/
theorem RepS.write (r : RepS C G ad st H) {n : Nat} {p : Addr} {o : HO} {c : MC} (hp : ad[n]? = some p) (ok : MOk C G (upd H p o) p ⟨true, c⟩) : RepS C G ad (st.set n ⟨true, c⟩) (upd H p o) := by
  have gp : G p = none := by cases c <;> exact ok.1
  refine ⟨fun b u e => ?_, by simp [r.len], r.nd, fun k m a e1 e2 => ?_⟩
  · have hb : b ≠ p := ne_of_none e gp
    rw [upd_ne hb]; exact r.sub b u e
  · by_cases hk : n = k
    · subst hk
      rw [hp] at e2
      have ea : p = a := Option.some.inj e2
      have hl : n < st.length := by rw [r.len]; exact (List.getElem?_eq_some_iff.mp hp).1
      rw [List.getElem?_set_self hl] at e1
      have em : _ = m := Option.some.inj e1
      subst ea em
      exact ok
    · rw [List.getElem?_set_ne hk] at e1
      have q := r.obj k m a e1 e2
      have hne : a ≠ p := fun z => by
        subst z
        exact hk ((List.getElem_inj (h₀ := (List.getElem?_eq_some_iff.mp hp).1) (h₁ := (List.getElem?_eq_some_iff.mp e2).1) r.nd).mp ((List.getElem?_eq_some_iff.mp hp).2.trans (List.getElem?_eq_some_iff.mp e2).2.symm))
      obtain ⟨lv, c⟩ := m
      cases lv with
      | true =>
        cases c with
        | lst ds =>
          obtain ⟨q0, vs, q1, q2⟩ := q
          exact ⟨q0, vs, by rw [upd_ne hne]; exact q1, q2⟩
        | dic kvs =>
          obtain ⟨q0, xs, ep, q1, q2, q3⟩ := q
          exact ⟨q0, xs, ep, by rw [upd_ne hne]; exact q1, q2, q3⟩
      | false => cases c <;> exact q
theorem Step.write {n : Nat} {p : Addr} {o : HO} (hp : ad[n]? = some p) : Step G ad H G ad (upd H p o) where
  gle := Le.refl
  adp := List.prefix_refl _
  keep := fun b u e nb => by
    have : b ≠ p := fun z => nb (by rw [z]; exact List.mem_of_getElem? hp)
    rw [upd_ne this]; exact e
  new := fun _ h => .inl h
  gnew := fun _ _ e => .inl e
/-- an entry is frozen -/
theorem RepS.freeze (r : RepS C G ad st H) {n : Nat} {p : Addr} {c : MC} (hp : ad[n]? = some p) (hm : st[n]? = some ⟨true, c⟩) :
    ∃ o, H p = some o ∧ G p = none ∧ RepS C (upd G p o) ad (st.set n ⟨false, c⟩) H ∧ Step G ad H (upd G p o) ad H := by
  have q := r.obj n _ p hm hp
  obtain ⟨o, ho, gp, ok⟩ : ∃ o, H p = some o ∧ G p = none ∧ MOk C (upd G p o) H p ⟨false, c⟩ := by
    cases c with
    | lst ds =>
      obtain ⟨q0, vs, q1, q2⟩ := q
      exact ⟨_, q1, q0, vs, upd_same, q2.le (Le.upd q0)⟩
    | dic kvs =>
      obtain ⟨q0, xs, ep, q1, q2, q3⟩ := q
      exact ⟨_, q1, q0, xs, ep, upd_same, q2.le (Le.upd q0), q3⟩
  have le : Le G (upd G p o) := Le.upd gp
  refine ⟨o, ho, gp, ⟨fun b u e => ?_, by simp [r.len], r.nd, fun k m a e1 e2 => ?_⟩, ⟨le, List.prefix_refl _, fun _ _ e _ => e, fun _ h => .inl h, fun b u e => ?_⟩⟩
  · by_cases hb : b = p
    · subst hb; rw [upd_same] at e; cases e; exact ho
    · rw [upd_ne hb] at e; exact r.sub _ _ e
  · by_cases hk : n = k
    · subst hk
      rw [hp] at e2
      have ea : p = a := Option.some.inj e2
      have hl : n < st.length := by rw [r.len]; exact (List.getElem?_eq_some_iff.mp hp).1
      rw [List.getElem?_set_self hl] at e1
      have em : _ = m := Option.some.inj e1
      subst ea em
      exact ok
    · rw [List.getElem?_set_ne hk] at e1
      have q := r.obj k m a e1 e2
      have hne : a ≠ p := fun z => by
        subst z
        exact hk ((List.getElem_inj (h₀ := (List.getElem?_eq_some_iff.mp hp).1) (h₁ := (List.getElem?_eq_some_iff.mp e2).1) r.nd).mp ((List.getElem?_eq_some_iff.mp hp).2.trans (List.getElem?_eq_some_iff.mp e2).2.symm))
      obtain ⟨lv, c⟩ := m
      cases lv with
      | true =>
        cases c with
        | lst ds =>
          obtain ⟨q0, vs, q1, q2⟩ := q
          exact ⟨by rw [upd_ne hne]; exact q0, vs, q1, q2.le le⟩
        | dic kvs =>
          obtain ⟨q0, xs, ep, q1, q2, q3⟩ := q
          exact ⟨by rw [upd_ne hne]; exact q0, xs, ep, q1, q2.le le, q3⟩
      | false =>
        cases c with
        | lst ds =>
          obtain ⟨vs, q1, q2⟩ := q
          exact ⟨vs, le _ _ q1, q2.le le⟩
        | dic kvs =>
          obtain ⟨xs, ep, q1, q2, q3⟩ := q
          exact ⟨xs, ep, le _ _ q1, q2.le le, q3⟩
  · by_cases hb : b = p
    · subst hb; exact .inr (.inr (List.mem_of_getElem? hp))
    · rw [upd_ne hb] at e; exact .inl e
/-- the store cut off behind n entries -/
theorem RepS.cut (r : RepS C G ad st H) (n : Nat) : RepS C G (ad.take n) (st.take n) H := by
  refine ⟨r.sub, by simp [r.len], r.nd.sublist (List.take_sublist _ _), fun k m a e1 e2 => ?_⟩
  by_cases hk : k < n
  · rw [List.getElem?_take_of_lt hk] at e1 e2
    exact r.obj k m a e1 e2
  · rw [List.getElem?_eq_none (by simp; omega)] at e1; cases e1
theorem Step.cut (s : Step G ad H G' ad' H') : Step G ad H G' (ad'.take ad.length) H' := by
  obtain ⟨t, e⟩ := s.adp
  have e2 : ad'.take ad.length = ad := by rw [← e]; simp
  rw [e2]
  exact ⟨s.gle, List.prefix_refl _, s.keep, fun _ h => .inl h, s.gnew⟩
end
end Fx

namespace Fx
open PySem PySem.Spec L2
open PyProof.Rows hiding St

/-- a result: a value and the store, an exception of the named class, or nothing known -/
inductive R (α : Type) where
  | ok (a : α) (st : Sto) | exc (c : Str) (st : Sto) | bad
def R.bind {α β : Type} (r : R α) (f : α → Sto → R β) : R β := match r with
  | .ok a st => f a st | .exc c st => .exc c st | .bad => .bad
@[simp] theorem R.bind_ok {α β : Type} (a : α) (st : Sto) (f : α → Sto → R β) : (R.ok a st).bind f = f a st := rfl
@[simp] theorem R.bind_exc {α β : Type} (c : Str) (st : Sto) (f : α → Sto → R β) : (R.exc c st : R α).bind f = .exc c st := rfl
@[simp] theorem R.bind_bad {α β : Type} (f : α → Sto → R β) : (R.bad : R α).bind f = .bad := rfl

abbrev EF := Lv → Sto → R W
abbrev TF := Lv → Sto → R Bool
abbrev AF := Lv → Sto → R (List W)
/-- what a result promises: U the concrete values, rel how they lie -/
def Post {U α : Type} (X : Cx) (Wx : WX) (G : Hp) (ad : List Addr) (H : Hp) (σ : L2.St) (rel : Hp → List Addr → U → α → Prop) (r : R α) (Q : U → Hp → Prop) : Prop := match r with
  | .ok w st => ∀ v G' ad' H', Step G ad H G' ad' H' → RepS (wd X) G' ad' st H' → rel G' ad' v w → Q v H'
  | .exc c st => ∃ C, X.mg c = some (.ref C) ∧ ∀ G' ad' H', Step G ad H G' ad' H' → RepS (wd X) G' ad' st H' → Wx (.ref C) none σ H'
  | .bad => False
theorem Post.mono {U α : Type} {X : Cx} {Wx : WX} {G : Hp} {ad : List Addr} {H : Hp} {σ : L2.St} {rel : Hp → List Addr → U → α → Prop} {r : R α} {Q : U → Hp → Prop} {G1 : Hp} {ad1 : List Addr} {H1 : Hp} (s : Step G ad H G1 ad1 H1)
    (h : Post X Wx G ad H σ rel r Q) : Post X Wx G1 ad1 H1 σ rel r Q := by
  cases r with
  | ok w st => exact fun v G' ad' H' s' => h v G' ad' H' (s.trans s')
  | exc c st => obtain ⟨C, m, k⟩ := h; exact ⟨C, m, fun G' ad' H' s' => k G' ad' H' (s.trans s')⟩
  | bad => exact h
theorem Post.bind {U U' α β : Type} {X : Cx} {Wx : WX} {G : Hp} {ad : List Addr} {H : Hp} {σ : L2.St} {rel : Hp → List Addr → U → α → Prop} {rel' : Hp → List Addr → U' → β → Prop} {r : R α} {f : α → Sto → R β} {Q : U' → Hp → Prop} {Q1 : U → Hp → Prop}
    (h : Post X Wx G ad H σ rel' (r.bind f) Q)
    (k : ∀ w st v G' ad' H', r = .ok w st → Step G ad H G' ad' H' → RepS (wd X) G' ad' st H' → rel G' ad' v w → Post X Wx G' ad' H' σ rel' (f w st) Q → Q1 v H') : Post X Wx G ad H σ rel r Q1 := by
  cases r with
  | ok w st => exact fun v G' ad' H' s rs rv => k w st v G' ad' H' rfl s rs rv (h.mono s)
  | exc c st => exact h
  | bad => exact h

abbrev relW (X : Cx) : Hp → List Addr → V → W → Prop := Wv (wd X)
abbrev relB : Hp → List Addr → Bool → Bool → Prop := fun _ _ b c => b = c
def WvAll (C : Wd) (G : Hp) (ad : List Addr) : List V → List W → Prop := Paired (Wv C G ad)
abbrev relA (X : Cx) : Hp → List Addr → List V → List W → Prop := WvAll (wd X)

def FE (X : Cx) (Wx : WX) (e : Expr) (F : EF) : Prop := ∃ t : TE, PE X e t ∧ ∀ σ H G ad ρ st Q, RepS (wd X) G ad st H → RepL (wd X) G ad ρ σ → Post X Wx G ad H σ (relW X) (F ρ st) Q → t σ H Q
def FT (X : Cx) (Wx : WX) (e : Expr) (F : TF) : Prop := ∃ t : TT, PT X e t ∧ ∀ σ H G ad ρ st Q, RepS (wd X) G ad st H → RepL (wd X) G ad ρ σ → Post X Wx G ad H σ relB (F ρ st) Q → t σ H Q
def FW (X : Cx) (Wx : WX) (e : Expr) (F : TF) : Prop := ∃ t : TT, PW X e t ∧ ∀ σ H G ad ρ st Q, RepS (wd X) G ad st H → RepL (wd X) G ad ρ σ → Post X Wx G ad H σ relB (F ρ st) Q → t σ H Q
def FA (X : Cx) (Wx : WX) (es : List Expr) (F : AF) : Prop := ∃ t : TA, PA X es t ∧ (∀ σ H G ad ρ st Q, RepS (wd X) G ad st H → RepL (wd X) G ad ρ σ → Post X Wx G ad H σ (relA X) (F ρ st) Q → t σ H Q) ∧ ∀ ρ st ws st', F ρ st = .ok ws st' → ws.length = es.length

/-! ### combinators -/
def cVar (i : Nat) : EF := fun ρ st => match ρ[i]? with | some (some w) => .ok w st | _ => .bad
def cD (x : PyData) : EF := fun _ st => .ok (.d x) st
def c1 (g : W → Sto → R W) (a : EF) : EF := fun ρ st => (a ρ st).bind g
def c2 (g : W → W → Sto → R W) (a b : EF) : EF := fun ρ st => (a ρ st).bind fun x st => (b ρ st).bind fun y st => g x y st
def aNil : AF := fun _ st => .ok [] st
def aCons (a : EF) (b : AF) : AF := fun ρ st => (a ρ st).bind fun x st => (b ρ st).bind fun xs st => .ok (x :: xs) st
def cA (g : List W → Sto → R W) (a : AF) : EF := fun ρ st => (a ρ st).bind g

section
variable {X : Cx} {Wx : WX} {a b e : Expr} {es : List Expr} {Fa Fb : EF} {FAs : AF} {pos : Pos}

theorem fe_var (i : Nat) {x : Str} (h : PE X (.Name x pos) (tVar i)) : FE X Wx (.Name x pos) (cVar i) := by
  refine ⟨_, h, fun σ H G ad ρ st Q rs rl h => ?_⟩
  unfold cVar at h
  generalize hq : ρ[i]? = q at h
  match q, h with
  | none, h => exact h.elim
  | some none, h => exact h.elim
  | some (some w), h =>
    obtain ⟨v, e, r⟩ := rl.2 i w hq
    exact ⟨v, e, h v G ad H .refl rs r⟩
theorem fe_int {i : Int} {j} : FE X Wx (.Constant (.int i) j pos) (cD (.int i)) := ⟨_, pe_int, fun σ H G ad ρ st Q rs rl h => h _ G ad H .refl rs (.d (.int i))⟩
theorem fe_bl {i : Bool} {j} : FE X Wx (.Constant (.bool i) j pos) (cD (.bool i)) := ⟨_, pe_bl, fun σ H G ad ρ st Q rs rl h => h _ G ad H .refl rs (.d (.bl i))⟩
theorem fe_non {j} : FE X Wx (.Constant .none j pos) (cD .none) := ⟨_, pe_non, fun σ H G ad ρ st Q rs rl h => h _ G ad H .refl rs (.d .non)⟩
theorem fe_str {x : Str} {j} : FE X Wx (.Constant (.str x) j pos) (cD (.str x)) := ⟨_, pe_str, fun σ H G ad ρ st Q rs rl h => h _ G ad H .refl rs (.d (.str x))⟩

/-- a one-place operation by values -/
def Op1 (X : Cx) (Wx : WX) (g : W → Sto → R W) (r : V → Hp → VK → Prop) : Prop := ∀ σ H G ad st v w Q, RepS (wd X) G ad st H → Wv (wd X) G ad v w → Post X Wx G ad H σ (relW X) (g w st) Q → r v H Q
def Op2 (X : Cx) (Wx : WX) (g : W → W → Sto → R W) (r : R2) : Prop := ∀ σ H G ad st v w u z Q, RepS (wd X) G ad st H → Wv (wd X) G ad v w → Wv (wd X) G ad u z → Post X Wx G ad H σ (relW X) (g w z st) Q → r v u H Q
def OpA (X : Cx) (Wx : WX) (g : List W → Sto → R W) (r : List V → Hp → VK → Prop) : Prop := ∀ σ H G ad st vs ws Q, RepS (wd X) G ad st H → WvAll (wd X) G ad vs ws → Post X Wx G ad H σ (relW X) (g ws st) Q → r vs H Q
theorem fe_1 {g : W → Sto → R W} {r : V → Hp → VK → Prop} (o : Op1 X Wx g r) (ha : FE X Wx a Fa) (pe : ∀ ta, PE X a ta → PE X e (fun σ H Q => ta σ H fun x H1 => r x H1 Q)) : FE X Wx e (c1 g Fa) := by
  obtain ⟨ta, pa, ha⟩ := ha
  refine ⟨_, pe ta pa, fun σ H G ad ρ st Q rs rl h => ?_⟩
  refine ha σ H G ad ρ st _ rs rl (Post.bind h fun w st1 v G1 ad1 H1 _ s1 rs1 rv k => ?_)
  exact o σ H1 G1 ad1 st1 v w Q rs1 rv k
theorem fe_2 {g : W → W → Sto → R W} {r : R2} (o : Op2 X Wx g r) (ha : FE X Wx a Fa) (hb : FE X Wx b Fb) (pe : ∀ ta tb, PE X a ta → PE X b tb → PE X e (tOp r ta tb)) : FE X Wx e (c2 g Fa Fb) := by
  obtain ⟨ta, pa, ha⟩ := ha
  obtain ⟨tb, pb, hb⟩ := hb
  refine ⟨_, pe ta tb pa pb, fun σ H G ad ρ st Q rs rl h => ?_⟩
  refine ha σ H G ad ρ st _ rs rl (Post.bind h fun w st1 v G1 ad1 H1 _ s1 rs1 rv k => ?_)
  refine hb σ H1 G1 ad1 ρ st1 _ rs1 (rl.step s1) (Post.bind k fun z st2 u G2 ad2 H2 _ s2 rs2 ru k2 => ?_)
  exact o σ H2 G2 ad2 st2 v w u z Q rs2 (rv.step s2) ru k2
theorem fa_nil : FA X Wx [] aNil := ⟨_, pa_nil, fun σ H G ad ρ st Q rs rl h => h _ G ad H .refl rs .nil, fun _ _ _ _ e => by cases e; rfl⟩
theorem fa_cons (ha : FE X Wx a Fa) (hr : FA X Wx es FAs) (hs : starEach (a :: es) X.env = (false, eval a X.env) :: starEach es X.env := by rfl) : FA X Wx (a :: es) (aCons Fa FAs) := by
  obtain ⟨ta, pa, ha⟩ := ha
  obtain ⟨tr, pr, hr, hl⟩ := hr
  refine ⟨_, pa_cons pa pr hs, fun σ H G ad ρ st Q rs rl h => ?_, fun ρ st ws st' e => ?_⟩
  rotate_left
  · unfold aCons at e
    cases e1 : Fa ρ st with
    | ok x s1 =>
      rw [e1] at e
      simp only [R.bind_ok] at e
      cases e2 : FAs ρ s1 with
      | ok xs s2 => rw [e2] at e; cases e; simp [hl _ _ _ _ e2]
      | exc c s2 => rw [e2] at e; cases e
      | bad => rw [e2] at e; cases e
    | exc c s1 => rw [e1] at e; cases e
    | bad => rw [e1] at e; cases e
  refine ha σ H G ad ρ st _ rs rl (Post.bind h fun w st1 v G1 ad1 H1 _ s1 rs1 rv k => ?_)
  refine hr σ H1 G1 ad1 ρ st1 _ rs1 (rl.step s1) (Post.bind k fun z st2 u G2 ad2 H2 _ s2 rs2 ru k2 => ?_)
  exact k2 _ G2 ad2 H2 .refl rs2 (.cons (rv.step s2) ru)
theorem fe_A {g : List W → Sto → R W} {r : List V → Hp → VK → Prop} (o : OpA X Wx g r) (ha : FA X Wx es FAs) (pe : ∀ t, PA X es t → PE X e (fun σ H Q => t σ H fun vs H1 => r vs H1 Q)) : FE X Wx e (cA g FAs) := by
  obtain ⟨t, p, ha, _⟩ := ha
  refine ⟨_, pe t p, fun σ H G ad ρ st Q rs rl h => ?_⟩
  refine ha σ H G ad ρ st _ rs rl (Post.bind h fun w st1 v G1 ad1 H1 _ s1 rs1 rv k => ?_)
  exact o σ H1 G1 ad1 st1 v w Q rs1 rv k
end

/-! ### reading values -/
def MC.data : MC → PyData
  | .lst ds => .list ds
  | .dic kvs => .dict (kvs.map fun p => (p.1.data, p.2))
/-- the data that a value stands for now -/
def der (st : Sto) : W → Option PyData
  | .d x => some x
  | .h n => (st[n]?).map fun m => m.c.data
  | _ => none
@[simp] theorem der_h (st : Sto) (n : Nat) : der st (.h n) = (st[n]?).map fun m => m.c.data := rfl
@[simp] theorem der_d (st : Sto) (x : PyData) : der st (.d x) = some x := rfl
section
variable {C : Wd} {G : Hp} {ad : List Addr} {H : Hp} {st : Sto} {v : V} {w : W}
theorem der_dv (rs : RepS C G ad st H) (r : Wv C G ad v w) {x : PyData} (e : der st w = some x) : Dv C H v x := by
  cases r with
  | d h => cases e; exact h.le rs.sub
  | @h n a ha =>
    rw [der_h] at e
    cases hm : st[n]? with
    | none => rw [hm] at e; cases e
    | some m =>
      rw [hm] at e
      have e' : m.c.data = x := Option.some.inj e
      subst e'
      have q := rs.obj n m _ hm ha
      obtain ⟨lv, c⟩ := m
      cases lv with
      | true =>
        cases c with
        | lst ds => obtain ⟨_, vs, q1, q2⟩ := q; exact .lst (SqL.of q1) (q2.le rs.sub)
        | dic kvs => obtain ⟨_, xs, ep, q1, q2, q3⟩ := q; exact .dic q1 (q2.le rs.sub) q3
      | false =>
        cases c with
        | lst ds => obtain ⟨vs, q1, q2⟩ := q; exact .lst (SqL.of (rs.sub _ _ q1)) (q2.le rs.sub)
        | dic kvs => obtain ⟨xs, ep, q1, q2, q3⟩ := q; exact .dic (rs.sub _ _ q1) (q2.le rs.sub) q3
  | hs _ _ => cases e
  | fn => cases e
theorem der_lst (rs : RepS C G ad st H) (r : Wv C G ad v w) {ds : List PyData} (e : der st w = some (.list ds)) : ∃ a xs, v = .ref a ∧ SqL C.K H a xs ∧ DvAll C G xs ds := by
  cases r with
  | d h => cases e; cases h with | lst h r => exact ⟨_, _, rfl, Le.sqL rs.sub h, r⟩
  | @h n a ha =>
    rw [der_h] at e
    cases hm : st[n]? with
    | none => rw [hm] at e; cases e
    | some m =>
      rw [hm] at e
      have e' : m.c.data = .list ds := Option.some.inj e
      have q := rs.obj n m _ hm ha
      obtain ⟨lv, c⟩ := m
      cases c with
      | dic kvs => cases e'
      | lst ds' =>
        cases e'
        cases lv with
        | true => obtain ⟨_, vs, q1, q2⟩ := q; exact ⟨_, _, rfl, SqL.of q1, q2⟩
        | false => obtain ⟨vs, q1, q2⟩ := q; exact ⟨_, _, rfl, SqL.of (rs.sub _ _ q1), q2⟩
  | hs _ _ => cases e
  | fn => cases e
theorem der_tup (rs : RepS C G ad st H) (r : Wv C G ad v w) {ds : List PyData} (e : der st w = some (.tuple ds)) : ∃ a xs, v = .ref a ∧ SqT C.K H a xs ∧ DvAll C G xs ds ∧ Dv C G v (.tuple ds) := by
  cases r with
  | d h => cases e; cases h with | tup h r => exact ⟨_, _, rfl, Le.sqT rs.sub h, r, .tup h r⟩
  | @h n a ha =>
    rw [der_h] at e
    cases hm : st[n]? with
    | none => rw [hm] at e; cases e
    | some m =>
      rw [hm] at e
      have e' : m.c.data = .tuple ds := Option.some.inj e
      obtain ⟨lv, c⟩ := m
      cases c <;> cases e'
  | hs _ _ => cases e
  | fn => cases e
theorem der_dic (rs : RepS C G ad st H) (r : Wv C G ad v w) {x : List (PyData × PyData)} (e : der st w = some (.dict x)) : ∃ a xs ep kvs, v = .ref a ∧ x = kvs.map (fun p => (p.1.data, p.2)) ∧ H a = some (dicO C a xs ep) ∧ DvKv C G xs kvs ∧ (kvs.map (·.1)).Nodup := by
  cases r with
  | d h => cases e; cases h with | dic h r n => exact ⟨_, _, _, _, rfl, rfl, rs.sub _ _ h, r, n⟩
  | @h n a ha =>
    rw [der_h] at e
    cases hm : st[n]? with
    | none => rw [hm] at e; cases e
    | some m =>
      rw [hm] at e
      have e' : m.c.data = .dict x := Option.some.inj e
      have q := rs.obj n m _ hm ha
      obtain ⟨lv, c⟩ := m
      cases c with
      | lst kvs => cases e'
      | dic kvs =>
        cases e'
        cases lv with
        | true => obtain ⟨_, xs, ep, q1, q2, q3⟩ := q; exact ⟨_, _, _, _, rfl, rfl, q1, q2, q3⟩
        | false => obtain ⟨xs, ep, q1, q2, q3⟩ := q; exact ⟨_, _, _, _, rfl, rfl, rs.sub _ _ q1, q2, q3⟩
  | hs _ _ => cases e
  | fn => cases e
theorem der_int (rs : RepS C G ad st H) (r : Wv C G ad v w) {i : Int} (e : der st w = some (.int i)) : v = .int i := by
  have := der_dv rs r e; cases this; rfl
theorem der_bl (rs : RepS C G ad st H) (r : Wv C G ad v w) {i : Bool} (e : der st w = some (.bool i)) : v = .bl i := by
  have := der_dv rs r e; cases this; rfl
theorem der_str (rs : RepS C G ad st H) (r : Wv C G ad v w) {i : Str} (e : der st w = some (.str i)) : v = .str i := by
  have := der_dv rs r e; cases this; rfl
end

/-! ### data operations -/
/-- a result of data: what Q must hold of -/
def okD (st : Sto) (x : Option PyData) : R W := match x with | some x => .ok (.d x) st | none => .bad
@[simp] theorem okD_some (st : Sto) (x : PyData) : okD st (some x) = .ok (.d x) st := rfl
@[simp] theorem okD_none (st : Sto) : okD st none = .bad := rfl
def g1 (f : PyData → Option PyData) (w : W) (st : Sto) : R W := okD st ((der st w).bind f)
def g2 (f : PyData → PyData → Option PyData) (w z : W) (st : Sto) : R W := okD st ((der st w).bind fun x => (der st z).bind fun y => f x y)
@[simp] theorem g1_d (f : PyData → Option PyData) (x : PyData) (st : Sto) : g1 f (.d x) st = okD st (f x) := rfl
@[simp] theorem g2_d (f : PyData → PyData → Option PyData) (x y : PyData) (st : Sto) : g2 f (.d x) (.d y) st = okD st (f x y) := rfl
section
variable {X : Cx} {Wx : WX} {G : Hp} {ad : List Addr} {H : Hp} {σ : L2.St} {st : Sto} {Q : VK}
/-- Q of a given data value that already lies -/
theorem Post.val {v : V} {x : PyData} (h : Post X Wx G ad H σ (relW X) (.ok (.d x) st) Q) (rs : RepS (wd X) G ad st H) (r : Dv (wd X) G v x) : Q v H := h v G ad H .refl rs (.d r)
theorem Post.newTup {vs : List V} {ds : List PyData} (h : Post X Wx G ad H σ (relW X) (.ok (.d (.tuple ds)) st) Q) (rs : RepS (wd X) G ad st H) (r : DvAll (wd X) G vs ds) : ∀ p, H p = none → Q (.ref p) (upd H p (.tup vs)) := fun p hp =>
  h _ _ _ _ (Step.newG rs hp) (rs.newG hp) (.d (.tup (SqT.of upd_same) (r.le (Le.upd (rs.sub.none hp)))))
theorem Post.newLst {vs : List V} {ds : List PyData} (h : Post X Wx G ad H σ (relW X) (.ok (.d (.list ds)) st) Q) (rs : RepS (wd X) G ad st H) (r : DvAll (wd X) G vs ds) : ∀ p, H p = none → Q (.ref p) (upd H p (.lst vs)) := fun p hp =>
  h _ _ _ _ (Step.newG rs hp) (rs.newG hp) (.d (.lst (SqL.of upd_same) (r.le (Le.upd (rs.sub.none hp)))))
theorem okD_inv {x : Option PyData} (h : Post X Wx G ad H σ (relW X) (okD st x) Q) : ∃ y, x = some y ∧ Post X Wx G ad H σ (relW X) (.ok (.d y) st) Q := by
  cases x with
  | none => exact h.elim
  | some y => exact ⟨y, rfl, h⟩
end
/-- 2-place data operation: from f's equation to the reading -/
theorem op2_of {X : Cx} {Wx : WX} {f : PyData → PyData → Option PyData} {r : R2}
    (k : ∀ σ H G ad st v w u z x y d Q, RepS (wd X) G ad st H → Wv (wd X) G ad v w → Wv (wd X) G ad u z → der st w = some x → der st z = some y → f x y = some d → Post X Wx G ad H σ (relW X) (.ok (.d d) st) Q → r v u H Q) : Op2 X Wx (g2 f) r := by
  intro σ H G ad st v w u z Q rs rv ru h
  obtain ⟨d, e, h⟩ := okD_inv h
  cases e1 : der st w with
  | none => rw [e1] at e; cases e
  | some x =>
    cases e2 : der st z with
    | none => rw [e1, e2] at e; cases e
    | some y =>
      rw [e1, e2] at e
      exact k σ H G ad st v w u z x y d Q rs rv ru e1 e2 e h
theorem op1_of {X : Cx} {Wx : WX} {f : PyData → Option PyData} {r : V → Hp → VK → Prop}
    (k : ∀ σ H G ad st v w x d Q, RepS (wd X) G ad st H → Wv (wd X) G ad v w → der st w = some x → f x = some d → Post X Wx G ad H σ (relW X) (.ok (.d d) st) Q → r v H Q) : Op1 X Wx (g1 f) r := by
  intro σ H G ad st v w Q rs rv h
  obtain ⟨d, e, h⟩ := okD_inv h
  cases e1 : der st w with
  | none => rw [e1] at e; cases e
  | some x =>
    rw [e1] at e
    exact k σ H G ad st v w x d Q rs rv e1 e h

/-! ### arithmetic -/
theorem OpR.or {X : Cx} {f : Value → Value → Sem Value} {r r' : R2} (h : OpR X f r) (h' : OpR X f r') : OpR X f (fun x y H Q => r x y H Q ∨ r' x y H Q) := by
  intro pins s σ H x y v u Q I rx ry q
  rcases q with q | q
  · exact h pins s σ H x y v u Q I rx ry q
  · exact h' pins s σ H x y v u Q I rx ry q
/-- + of two lists as they lie, whatever else their objects hold -/
theorem list_add_any (l : Addr) (xs : Array Value) (n : Nat) (dl : Option Addr) (sl : Array (Option Value)) (b : Addr) (ys : Array Value) (m : Nat) (db : Option Addr) (sb : Array (Option Value)) (hz : xs.size + ys.size ≤ sizeLine) :
    Meets (Builtin.«list.__add__» ⟨[.ref l, .ref b], []⟩) (fun _ R s => s.heap.get? l = some { cls := .type "list", dict := dl, data := .seq xs n, slots := sl } ∧ s.heap.get? b = some { cls := .type "list", dict := db, data := .seq ys m, slots := sb } ∧
      R (.ok (.ret (.ref s.heap.objs.size))) { s with heap := s.heap.push { cls := .type "list", data := .seq (xs ++ ys) } }) :=
  .of_wp fun prog w A R s h => by
    obtain ⟨hp, g, d, tk, os⟩ := s
    obtain ⟨h1, h2, h⟩ := h
    have f1 := AutoSeq1.idx_int
    have f2 := AutoSeq1.sub_list_list
    wp_walk using wpAny_loadPart' h1, wpAny_loadPart' h2
    exact ⟨_, rfl, h⟩
def rCatR (K : PySem.W.Frag) : R2 := fun x y H Q => ∃ l b xs zs, x = .ref l ∧ y = .ref b ∧ SqL K H l xs ∧ SqL K H b zs ∧ xs.length + zs.length ≤ sizeLine ∧ ∀ p, H p = none → Q (.ref p) (upd H p (.lst (xs ++ zs)))
theorem op_catR {X : Cx} : OpR X (binaryOp .Add) (rCatR X.K) := by
  intro pins s σ H x y v u Q I rx ry h
  obtain ⟨l, b, xs, zs, rfl, rfl, hH, hB, hz, q⟩ := h
  cases rx
  cases ry
  obtain ⟨its, r, ⟨⟨c1, d1, t1, s1⟩, n, e, e1, e2, e3⟩, _⟩ := I.list hH
  obtain ⟨its2, r2, ⟨⟨c2, d2, t2, s2⟩, n2, e', e1', e2', e3'⟩, _⟩ := I.list hB
  simp only at e1 e2 e3 e1' e2' e3'
  subst e1 e2 e3 e1' e2' e3'
  have hl := r.length
  have hl2 := r2.length
  refine concat_meets ⟨_, e, rfl⟩ ⟨_, e', rfl⟩ noFill_list_add seq_list_add F.slot_list_add F.entry_list_add (F.args_list_add_2 _ _) (list_add_any l its.toArray n none s1 b its2.toArray n2 none s2 (by rw [List.size_toArray, List.size_toArray]; omega)) ⟨e, e', ?_⟩
  have ea : its.toArray ++ its2.toArray = (its ++ its2).toArray := by simp
  rw [ea]
  exact ⟨.ref _, _, I.lnew (t' := s.toks) (r.append r2) (by rw [List.length_append]; omega), rfl, q _ I.fresh⟩
def fAdd : PyData → PyData → Option PyData
  | .int i, .int j => some (.int (i + j))
  | .list xs, .list ys => if xs.length + ys.length ≤ sizeLine then some (.list (xs ++ ys)) else none
  | .tuple xs, .tuple ys => if xs.length + ys.length ≤ sizeLine then some (.tuple (xs ++ ys)) else none
  | _, _ => none
def fSub : PyData → PyData → Option PyData
  | .int i, .int j => some (.int (i - j))
  | _, _ => none
def small64 (i : Int) : Prop := -(2 ^ 64) < i ∧ i < 2 ^ 64
/-- the same, by places: the kernel is stuck at once where i is not written -/
def small64b : Int → Bool
  | .ofNat n => Nat.ble n 18446744073709551615
  | .negSucc n => Nat.ble n 18446744073709551614
theorem small64b_iff (i : Int) : small64b i = true ↔ small64 i := by
  unfold small64
  cases i with
  | ofNat n =>
    show Nat.ble n _ = true ↔ _
    rw [Nat.ble_eq]
    have : Int.ofNat n = (n : Int) := rfl
    rw [this]
    omega
  | negSucc n =>
    show Nat.ble n _ = true ↔ _
    rw [Nat.ble_eq, Int.negSucc_eq]
    omega
instance (i : Int) : Decidable (small64 i) := decidable_of_iff _ (small64b_iff i)
def fMod : PyData → PyData → Option PyData
  | .int i, .int j => if 0 < j then some (.int (i % j)) else none
  | _, _ => none
def fDiv : PyData → PyData → Option PyData
  | .int i, .int j => if 0 < j ∧ j < 1073741824 then some (.int (i / j)) else none
  | _, _ => none
def fPow : PyData → PyData → Option PyData
  | .int i, .int j => if 0 ≤ j ∧ j ≤ 1000000 ∧ i.natAbs < 2 ^ 64 then some (.int (i ^ j.toNat)) else none
  | _, _ => none
section
variable {X : Cx} {Wx : WX} {a b : Expr} {Fa Fb : EF} {pos : Pos}
theorem o_add : Op2 X Wx (g2 fAdd) (fun x y H Q => rI0 (fun i j => .int (i + j)) x y H Q ∨ (rCatR X.K x y H Q ∨ rCatA X.K x y H Q)) := op2_of fun σ H G ad st v w u z x y d Q rs rv ru e1 e2 e h => by
  unfold fAdd at e
  split at e
  · cases e
    obtain rfl := der_int rs rv e1
    obtain rfl := der_int rs ru e2
    exact .inl ⟨_, _, rfl, rfl, h.val rs (.int _)⟩
  · split at e
    · cases e
      rename_i xs ys hz
      obtain ⟨p, vs, rfl, s1, r1⟩ := der_lst rs rv e1
      obtain ⟨q, us, rfl, s2, r2⟩ := der_lst rs ru e2
      exact .inr (.inl ⟨p, q, vs, us, rfl, rfl, s1, s2, by rw [r1.length, r2.length]; exact hz, h.newLst rs (r1.append r2)⟩)
    · cases e
  · split at e
    · cases e
      rename_i xs ys hz
      obtain ⟨p, vs, rfl, s1, r1, d1⟩ := der_tup rs rv e1
      obtain ⟨q, us, rfl, s2, r2, d2⟩ := der_tup rs ru e2
      refine .inr (.inr ⟨p, q, vs, us, rfl, rfl, s1, s2, by rw [r1.length, r2.length]; exact hz, fun h0 => ?_, fun _ h0 => ?_, fun _ _ => ?_⟩)
      · rw [r1.nil_iff] at h0; subst h0; exact h.val rs d2
      · rw [r2.nil_iff] at h0; subst h0; rw [List.append_nil] at h; exact h.val rs d1
      · exact h.newTup rs (r1.append r2)
    · cases e
  · cases e
theorem o_sub : Op2 X Wx (g2 fSub) (rI0 (fun i j => .int (i - j))) := op2_of fun σ H G ad st v w u z x y d Q rs rv ru e1 e2 e h => by
  unfold fSub at e
  split at e
  · cases e
    obtain rfl := der_int rs rv e1
    obtain rfl := der_int rs ru e2
    exact ⟨_, _, rfl, rfl, h.val rs (.int _)⟩
  · cases e
theorem o_mod : Op2 X Wx (g2 fMod) (rI (fun _ j => 0 < j) fun i j => .int (i % j)) := op2_of fun σ H G ad st v w u z x y d Q rs rv ru e1 e2 e h => by
  unfold fMod at e
  split at e
  · split at e
    · cases e
      obtain rfl := der_int rs rv e1
      obtain rfl := der_int rs ru e2
      exact ⟨_, _, rfl, rfl, by assumption, h.val rs (.int _)⟩
    · cases e
  · cases e
theorem o_div : Op2 X Wx (g2 fDiv) (rI CDiv fun i j => .int (i / j)) := op2_of fun σ H G ad st v w u z x y d Q rs rv ru e1 e2 e h => by
  unfold fDiv at e
  split at e
  · split at e
    · cases e
      obtain rfl := der_int rs rv e1
      obtain rfl := der_int rs ru e2
      exact ⟨_, _, rfl, rfl, by assumption, h.val rs (.int _)⟩
    · cases e
  · cases e
theorem o_pow : Op2 X Wx (g2 fPow) (rI CPow fun i j => .int (i ^ j.toNat)) := op2_of fun σ H G ad st v w u z x y d Q rs rv ru e1 e2 e h => by
  unfold fPow at e
  split at e
  · split at e
    · cases e
      obtain rfl := der_int rs rv e1
      obtain rfl := der_int rs ru e2
      exact ⟨_, _, rfl, rfl, by assumption, h.val rs (.int _)⟩
    · cases e
  · cases e
theorem fe_add (ha : FE X Wx a Fa) (hb : FE X Wx b Fb) : FE X Wx (.BinOp a .Add b pos) (c2 (g2 fAdd) Fa Fb) := fe_2 o_add ha hb fun _ _ p q => pe_op (OpR.or op_add (OpR.or op_catR op_catA)) p q
theorem fe_sub (ha : FE X Wx a Fa) (hb : FE X Wx b Fb) : FE X Wx (.BinOp a .Sub b pos) (c2 (g2 fSub) Fa Fb) := fe_2 o_sub ha hb fun _ _ p q => pe_op op_sub p q
theorem fe_mod (ha : FE X Wx a Fa) (hb : FE X Wx b Fb) : FE X Wx (.BinOp a .Mod b pos) (c2 (g2 fMod) Fa Fb) := fe_2 o_mod ha hb fun _ _ p q => pe_op op_mod p q
theorem fe_div (ha : FE X Wx a Fa) (hb : FE X Wx b Fb) : FE X Wx (.BinOp a .FloorDiv b pos) (c2 (g2 fDiv) Fa Fb) := fe_2 o_div ha hb fun _ _ p q => pe_op op_fdiv p q
theorem fe_pow (ha : FE X Wx a Fa) (hb : FE X Wx b Fb) : FE X Wx (.BinOp a .Pow b pos) (c2 (g2 fPow) Fa Fb) := fe_2 o_pow ha hb fun _ _ p q => pe_op op_pow p q
end
end Fx

namespace Fx
open PySem PySem.Spec L2
open PyProof.Rows hiding St

/-! ### sequences times ints -/
theorem tuple_mul1 (l : Addr) (items : Array Value) (n : Nat) (sl : Array (Option Value)) (dd : Option Addr) (u : Tok) :
    Meets (Builtin.«tuple.__mul__» ⟨[.ref l, .int 1 u], []⟩) (fun _ R s => s.heap.get? l = some { cls := .type "tuple", dict := dd, data := .seq items n, slots := sl } ∧ R (.ok (.ret (Value.ref l))) s) :=
  .of_wp fun prog w A R s h => by
    obtain ⟨hp, g, d, tk, os⟩ := s
    obtain ⟨hl, h⟩ := h
    have f1 := AutoSeq1.idx_int
    wp_walk using wpAny_loadPart' hl
    repeat (first
      | (refine wpAny_ite_false (by decide) ?_; wp_walk using wpAny_loadPart' hl)
      | (refine wpAny_ite_true (by simp) ?_; wp_walk using wpAny_loadPart' hl))
    exact ⟨_, rfl, h⟩

def rRep1 (K : PySem.W.Frag) : R2 := fun x y H Q => ∃ l xs, x = .ref l ∧ y = .int 1 ∧ SqT K H l xs ∧ Q (.ref l) H
theorem op_rep1 {X : Cx} : OpR X (binaryOp .Mult) (rRep1 X.K) := by
  intro pins s σ H x y v u Q I rx ry h
  obtain ⟨l, xs, rfl, rfl, hT, q⟩ := h
  cases rx
  obtain ⟨t, rfl⟩ := ry
  obtain ⟨its, r, ⟨⟨cls, dd, data, sl⟩, ho, hc, n, hd⟩, hs⟩ := I.tuple hT
  simp only at hc hd
  subst hc hd
  refine wpAny_binaryOp_repeat_ref (T := "tuple") (U := "int") (by decide) ⟨_, ho, rfl⟩ (fun s' => typeIs_int s' 1 t) noFill_tuple_mul F.fills_int_mul F.slot_int_rmul repeat_tuple F.slot_int_index.lookup
    (call_meets F.slot_int_rmul (typeIs_int s 1 t) F.entry_int_rmul (F.args_int_rmul_2 _ _) (int_rmul_tuple 1 t l its.toArray n dd sl)
      ⟨ho, rfl, ⟨_, ho, rfl⟩, call_meets F.slot_tuple_mul ⟨_, ho, rfl⟩ F.entry_tuple_mul (F.args_tuple_mul_2 _ _) (tuple_mul1 l its.toArray n sl dd t) ⟨ho, ?_⟩⟩)
  exact ⟨.ref l, H, I, rfl, q⟩
theorem DvAll.rep {C : Wd} {G : Hp} {vs : List V} {ds : List PyData} (r : DvAll C G vs ds) : ∀ k : Nat, DvAll C G (List.replicate k vs).flatten (List.replicate k ds).flatten
  | 0 => .nil
  | k + 1 => by rw [List.replicate_succ, List.replicate_succ]; exact r.append (DvAll.rep r k)
def fMul : PyData → PyData → Option PyData
  | .int i, .int j => if small64 i ∨ small64 j then some (.int (i * j)) else none
  | .tuple xs, .int k => if k = 1 then some (.tuple xs) else if 2 ≤ k ∧ k ≤ 1000 ∧ xs.length ≤ 1000 ∧ xs.isEmpty = false then some (.tuple (List.replicate k.toNat xs).flatten) else none
  | _, _ => none
section
variable {X : Cx} {Wx : WX} {a b : Expr} {Fa Fb : EF} {pos : Pos}
theorem o_mul : Op2 X Wx (g2 fMul) (fun x y H Q => rI CMul (fun i j => .int (i * j)) x y H Q ∨ (rRep1 X.K x y H Q ∨ rRepT X.K x y H Q)) := op2_of fun σ H G ad st v w u z x y d Q rs rv ru e1 e2 e h => by
  unfold fMul at e
  split at e
  · split at e
    · cases e
      obtain rfl := der_int rs rv e1
      obtain rfl := der_int rs ru e2
      exact .inl ⟨_, _, rfl, rfl, by assumption, h.val rs (.int _)⟩
    · cases e
  · split at e
    · cases e
      rename_i xs k hk
      subst hk
      obtain ⟨p, vs, rfl, s1, r1, d1⟩ := der_tup rs rv e1
      obtain rfl := der_int rs ru e2
      exact .inr (.inl ⟨p, vs, rfl, rfl, s1, h.val rs d1⟩)
    · split at e
      · cases e
        rename_i xs k _ hz
        obtain ⟨p, vs, rfl, s1, r1, d1⟩ := der_tup rs rv e1
        obtain rfl := der_int rs ru e2
        refine .inr (.inr ⟨p, k, vs, rfl, rfl, s1, fun h0 => ?_, hz.1, hz.2.1, by rw [r1.length]; exact hz.2.2.1, h.newTup rs (r1.rep _)⟩)
        rw [r1.nil_iff] at h0
        rw [h0] at hz
        exact absurd hz.2.2.2 (by decide)
      · cases e
  · cases e
theorem fe_mul (ha : FE X Wx a Fa) (hb : FE X Wx b Fb) : FE X Wx (.BinOp a .Mult b pos) (c2 (g2 fMul) Fa Fb) := fe_2 o_mul ha hb fun _ _ p q => pe_op (OpR.or op_mul (OpR.or op_rep1 op_repT)) p q
def fNeg : PyData → Option PyData
  | .int i => some (.int (-i))
  | _ => none
theorem fe_neg (ha : FE X Wx a Fa) : FE X Wx (.UnaryOp .USub a pos) (c1 (g1 fNeg) Fa) := fe_1 (op1_of fun σ H G ad st v w x d Q rs rv e1 e h => by
  unfold fNeg at e
  split at e
  · cases e
    obtain rfl := der_int rs rv e1
    exact ⟨_, rfl, h.val rs (.int _)⟩
  · cases e) ha fun _ p => pe_un un_neg p
end

/-! ### data as the library's -/
mutual
theorem dp_of {C : Wd} {H : Hp} : ∀ {v : V} {d : PyData}, Dv C H v d → d.canLay0 = true → Dp C.K H v d
  | _, _, .non, _ => .non
  | _, _, .bl b, _ => .bl b
  | _, _, .int i, _ => .int i
  | _, _, .str x, _ => .str x
  | _, _, .lst h r, z => .lst h (dpAll_of r (by simpa [PyData.canLay0] using z))
  | _, _, .tup h r, z => .tup h (dpAll_of r (by simpa [PyData.canLay0] using z))
  | _, _, .dic _ _ _, z => by simp [PyData.canLay0] at z
theorem dpAll_of {C : Wd} {H : Hp} : ∀ {vs : List V} {ds : List PyData}, DvAll C H vs ds → PyData.canLayAll0 ds = true → DpAll C.K H vs ds
  | _, _, .nil, _ => .nil
  | _, _, .cons h r, z => .cons (dp_of h (by simp [PyData.canLayAll0] at z; exact z.1)) (dpAll_of r (by simp [PyData.canLayAll0] at z; exact z.2))
end
abbrev shp (d : PyData) : Bool := SeqAt.shaped d
theorem dp_shaped {C : Wd} {H : Hp} {v : V} {d : PyData} (h : Dv C H v d) (z : shp d = true) : Dp C.K H v d := dp_of h (SeqAt.canLay_of_shaped z)

/-! ### comparisons of data -/
def fCmpI (p : Int → Int → Bool) : PyData → PyData → Option PyData
  | .int i, .int j => some (.bool (p i j))
  | _, _ => none
def fEq : PyData → PyData → Option PyData := fun x y => if shp x = true ∧ shp y = true then some (.bool (PyData.eqv x y)) else none
def fNe : PyData → PyData → Option PyData := fun x y => if shp x = true ∧ shp y = true then some (.bool (!PyData.eqv x y)) else none
section
variable {X : Cx} {Wx : WX} {a b : Expr} {Fa Fb : EF} {pos : Pos}
theorem o_cmpI {p : Int → Int → Bool} : Op2 X Wx (g2 (fCmpI p)) (rI0 fun i j => .bl (p i j)) := op2_of fun σ H G ad st v w u z x y d Q rs rv ru e1 e2 e h => by
  unfold fCmpI at e
  split at e
  · cases e
    obtain rfl := der_int rs rv e1
    obtain rfl := der_int rs ru e2
    exact ⟨_, _, rfl, rfl, h.val rs (.bl _)⟩
  · cases e
theorem o_eq : Op2 X Wx (g2 fEq) (rEqD X.K) := op2_of fun σ H G ad st v w u z x y d Q rs rv ru e1 e2 e h => by
  unfold fEq at e
  split at e
  · cases e
    rename_i hz
    exact ⟨x, y, dp_shaped (der_dv rs rv e1) hz.1, dp_shaped (der_dv rs ru e2) hz.2, hz.1, hz.2, h.val rs (.bl _)⟩
  · cases e
theorem o_ne : Op2 X Wx (g2 fNe) (rNeD X.K) := op2_of fun σ H G ad st v w u z x y d Q rs rv ru e1 e2 e h => by
  unfold fNe at e
  split at e
  · cases e
    rename_i hz
    exact ⟨x, y, dp_shaped (der_dv rs rv e1) hz.1, dp_shaped (der_dv rs ru e2) hz.2, hz.1, hz.2, h.val rs (.bl _)⟩
  · cases e
end
end Fx

namespace Fx
open PySem PySem.Spec L2
open PyProof.Rows hiding St

/-- room for the deep comparisons -/
abbrev Hu (X : Cx) : Prop := X.A.units + 100 < cLine

/-! ### tests -/
def asB (w : W) (st : Sto) : R Bool := match w with | .d (.bool b) => .ok b st | _ => .bad
def tB (F : EF) : TF := fun ρ st => (F ρ st).bind asB
def tNotF (F : TF) : TF := fun ρ st => (F ρ st).bind fun b st => .ok (!b) st
def tAndF (F K : TF) : TF := fun ρ st => (F ρ st).bind fun b st => if b = true then K ρ st else .ok false st
def tOrF (F K : TF) : TF := fun ρ st => (F ρ st).bind fun b st => if b = true then .ok true st else K ρ st
def cIf (c : TF) (a b : EF) : EF := fun ρ st => (c ρ st).bind fun k st => if k = true then a ρ st else b ρ st
def cAnd (a b : EF) : EF := fun ρ st => (a ρ st).bind fun w st => (asB w st).bind fun k st => if k = true then b ρ st else .ok (.d (.bool false)) st
def cOr (a b : EF) : EF := fun ρ st => (a ρ st).bind fun w st => (asB w st).bind fun k st => if k = true then .ok (.d (.bool true)) st else b ρ st
def cNot (a : EF) : EF := fun ρ st => (a ρ st).bind fun w st => (asB w st).bind fun k st => .ok (.d (.bool (!k))) st
def cChain (g g' : W → W → Sto → R W) (a b c : EF) : EF := fun ρ st => (a ρ st).bind fun x st => (b ρ st).bind fun y st => (g x y st).bind fun z st => (asB z st).bind fun k st =>
  if k = true then (c ρ st).bind fun w st => g' y w st else .ok (.d (.bool false)) st
section
variable {X : Cx} {Wx : WX} {a b c e : Expr} {Fa Fb Fc : EF} {Ta Tb : TF} {pos : Pos} {rest : List Expr}
theorem asB_post {U : Type} {G : Hp} {ad : List Addr} {H : Hp} {σ : L2.St} {β : Type} {rel : Hp → List Addr → U → β → Prop} {w : W} {st : Sto} {f : Bool → Sto → R β} {Q : U → Hp → Prop} {v : V} (r : Wv (wd X) G ad v w)
    (h : Post X Wx G ad H σ rel ((asB w st).bind f) Q) : ∃ k, v = .bl k ∧ Post X Wx G ad H σ rel (f k st) Q := by
  unfold asB at h
  split at h
  · cases r with | d r => cases r; exact ⟨_, rfl, h⟩
  · exact h.elim
theorem ft_val (he : FE X Wx e Fa) (h : ∀ whole, isTrue e X.env whole = (do let v ← whole; standAt e.pos; holding [v] (truthy v)) := by intro _; rfl) : FT X Wx e (tB Fa) := by
  obtain ⟨t, p, k⟩ := he
  refine ⟨_, pt_val p h, fun σ H G ad ρ st Q rs rl h => ?_⟩
  refine k σ H G ad ρ st _ rs rl (Post.bind h fun w st1 v G1 ad1 H1 _ s1 rs1 rv q => ?_)
  unfold asB at q
  split at q
  · cases rv with | d r => cases r; exact ⟨_, rfl, q _ G1 ad1 H1 .refl rs1 rfl⟩
  · exact q.elim
theorem ft_2 {g : W → W → Sto → R W} {r : R2} (o : Op2 X Wx g r) (ha : FE X Wx a Fa) (hb : FE X Wx b Fb) (pt : ∀ ta tb, PE X a ta → PE X b tb → PT X e (tTest (tOp r ta tb))) : FT X Wx e (tB (c2 g Fa Fb)) := by
  obtain ⟨ta, pa, ha⟩ := ha
  obtain ⟨tb, pb, hb⟩ := hb
  refine ⟨_, pt ta tb pa pb, fun σ H G ad ρ st Q rs rl h => ?_⟩
  have h' : Post X Wx G ad H σ relB ((Fa ρ st).bind fun x st => (Fb ρ st).bind fun y st => (g x y st).bind asB) Q := by
    have e : tB (c2 g Fa Fb) ρ st = ((Fa ρ st).bind fun x st => (Fb ρ st).bind fun y st => (g x y st).bind asB) := by
      unfold tB c2
      cases Fa ρ st with
      | ok x s1 => simp only [R.bind_ok]; cases Fb ρ s1 <;> rfl
      | exc => rfl
      | bad => rfl
    rw [← e]; exact h
  refine ha σ H G ad ρ st _ rs rl (Post.bind h' fun w st1 v G1 ad1 H1 _ s1 rs1 rv k => ?_)
  refine hb σ H1 G1 ad1 ρ st1 _ rs1 (rl.step s1) (Post.bind k fun z st2 u G2 ad2 H2 _ s2 rs2 ru k2 => ?_)
  refine o σ H2 G2 ad2 st2 v w u z _ rs2 (rv.step s2) ru (Post.bind k2 fun y st3 q G3 ad3 H3 _ s3 rs3 rq k3 => ?_)
  unfold asB at k3
  split at k3
  · cases rq with | d r => cases r; exact ⟨_, rfl, k3 _ G3 ad3 H3 .refl rs3 rfl⟩
  · exact k3.elim
theorem FW.ft (h : FW X Wx e Ta) : FT X Wx e Ta := let ⟨t, p, k⟩ := h; ⟨t, p.pt, k⟩
theorem fw_and1 (h : FT X Wx a Ta) : FW X Wx (.BoolOp .And [a] pos) Ta := let ⟨t, p, k⟩ := h; ⟨t, pw_and1 p, k⟩
theorem fw_or1 (h : FT X Wx a Ta) : FW X Wx (.BoolOp .Or [a] pos) Ta := let ⟨t, p, k⟩ := h; ⟨t, pw_or1 p, k⟩
theorem fw_and (ha : FT X Wx a Ta) (hb : FW X Wx (.BoolOp .And (b :: rest) pos) Tb) : FW X Wx (.BoolOp .And (a :: b :: rest) pos) (tAndF Ta Tb) := by
  obtain ⟨ta, pa, ha⟩ := ha
  obtain ⟨tb, pb, hb⟩ := hb
  refine ⟨_, pw_and pa pb, fun σ H G ad ρ st Q rs rl h => ?_⟩
  refine ha σ H G ad ρ st _ rs rl (Post.bind h fun w st1 v G1 ad1 H1 _ s1 rs1 rv k => ?_)
  obtain rfl : v = w := rv
  cases v with
  | true => exact hb σ H1 G1 ad1 ρ st1 _ rs1 (rl.step s1) k
  | false => exact k _ G1 ad1 H1 .refl rs1 rfl
theorem fw_or (ha : FT X Wx a Ta) (hb : FW X Wx (.BoolOp .Or (b :: rest) pos) Tb) : FW X Wx (.BoolOp .Or (a :: b :: rest) pos) (tOrF Ta Tb) := by
  obtain ⟨ta, pa, ha⟩ := ha
  obtain ⟨tb, pb, hb⟩ := hb
  refine ⟨_, pw_or pa pb, fun σ H G ad ρ st Q rs rl h => ?_⟩
  refine ha σ H G ad ρ st _ rs rl (Post.bind h fun w st1 v G1 ad1 H1 _ s1 rs1 rv k => ?_)
  obtain rfl : v = w := rv
  cases v with
  | false => exact hb σ H1 G1 ad1 ρ st1 _ rs1 (rl.step s1) k
  | true => exact k _ G1 ad1 H1 .refl rs1 rfl
theorem ft_not (ha : FT X Wx a Ta) : FT X Wx (.UnaryOp .Not a pos) (tNotF Ta) := by
  obtain ⟨ta, pa, ha⟩ := ha
  refine ⟨_, pt_not pa, fun σ H G ad ρ st Q rs rl h => ?_⟩
  refine ha σ H G ad ρ st _ rs rl (Post.bind h fun w st1 v G1 ad1 H1 _ s1 rs1 rv k => ?_)
  obtain rfl : v = w := rv
  exact k _ G1 ad1 H1 .refl rs1 rfl
theorem fe_ife (hc : FT X Wx c Ta) (ha : FE X Wx a Fa) (hb : FE X Wx b Fb) : FE X Wx (.IfExp c a b pos) (cIf Ta Fa Fb) := by
  obtain ⟨tc, pc, hc⟩ := hc
  obtain ⟨ta, pa, ha⟩ := ha
  obtain ⟨tb, pb, hb⟩ := hb
  refine ⟨_, pe_ifExp pc pa pb, fun σ H G ad ρ st Q rs rl h => ?_⟩
  refine hc σ H G ad ρ st _ rs rl (Post.bind h fun w st1 v G1 ad1 H1 _ s1 rs1 rv k => ?_)
  obtain rfl : v = w := rv
  cases v with
  | true => exact ha σ H1 G1 ad1 ρ st1 _ rs1 (rl.step s1) k
  | false => exact hb σ H1 G1 ad1 ρ st1 _ rs1 (rl.step s1) k
theorem fe_one {op} (h : FE X Wx a Fa) : FE X Wx (.BoolOp op [a] pos) Fa := let ⟨t, p, k⟩ := h; ⟨t, pe_one p, k⟩
theorem fe_and (ha : FE X Wx a Fa) (hb : FE X Wx (.BoolOp .And (b :: rest) pos) Fb) : FE X Wx (.BoolOp .And (a :: b :: rest) pos) (cAnd Fa Fb) := by
  obtain ⟨ta, pa, ha⟩ := ha
  obtain ⟨tb, pb, hb⟩ := hb
  refine ⟨_, pe_and pa pb, fun σ H G ad ρ st Q rs rl h => ?_⟩
  refine ha σ H G ad ρ st _ rs rl (Post.bind h fun w st1 v G1 ad1 H1 _ s1 rs1 rv k => ?_)
  obtain ⟨k', rfl, q⟩ := asB_post rv k
  refine ⟨_, rfl, ?_⟩
  cases k' with
  | true => exact hb σ H1 G1 ad1 ρ st1 _ rs1 (rl.step s1) q
  | false => exact q _ G1 ad1 H1 .refl rs1 (.d (.bl false))
theorem fe_or (ha : FE X Wx a Fa) (hb : FE X Wx (.BoolOp .Or (b :: rest) pos) Fb) : FE X Wx (.BoolOp .Or (a :: b :: rest) pos) (cOr Fa Fb) := by
  obtain ⟨ta, pa, ha⟩ := ha
  obtain ⟨tb, pb, hb⟩ := hb
  refine ⟨_, pe_or pa pb, fun σ H G ad ρ st Q rs rl h => ?_⟩
  refine ha σ H G ad ρ st _ rs rl (Post.bind h fun w st1 v G1 ad1 H1 _ s1 rs1 rv k => ?_)
  obtain ⟨k', rfl, q⟩ := asB_post rv k
  refine ⟨_, rfl, ?_⟩
  cases k' with
  | false => exact hb σ H1 G1 ad1 ρ st1 _ rs1 (rl.step s1) q
  | true => exact q _ G1 ad1 H1 .refl rs1 (.d (.bl true))
theorem fe_not (ha : FE X Wx a Fa) : FE X Wx (.UnaryOp .Not a pos) (cNot Fa) := by
  obtain ⟨ta, pa, ha⟩ := ha
  refine ⟨_, pe_not pa, fun σ H G ad ρ st Q rs rl h => ?_⟩
  refine ha σ H G ad ρ st _ rs rl (Post.bind h fun w st1 v G1 ad1 H1 _ s1 rs1 rv k => ?_)
  obtain ⟨k', rfl, q⟩ := asB_post rv k
  exact ⟨_, rfl, q _ G1 ad1 H1 .refl rs1 (.d (.bl _))⟩
theorem fe_chain {g g' : W → W → Sto → R W} {r r' : R2} {op op' : CmpOp} (o : Op2 X Wx g r) (o' : Op2 X Wx g' r') (h : OpR X (compareOp op) r) (h' : OpR X (compareOp op') r') (ha : FE X Wx a Fa) (hb : FE X Wx b Fb) (hc : FE X Wx c Fc)
    (hm : lastMarks [op, op'] [b, c] = false := by with_unfolding_all rfl) : FE X Wx (.Compare a [op, op'] [b, c] pos) (cChain g g' Fa Fb Fc) := by
  obtain ⟨ta, pa, ha⟩ := ha
  obtain ⟨tb, pb, hb⟩ := hb
  obtain ⟨tc, pc, hc⟩ := hc
  refine ⟨_, pe_chain h h' pa pb pc hm, fun σ H G ad ρ st Q rs rl h => ?_⟩
  refine ha σ H G ad ρ st _ rs rl (Post.bind h fun w st1 v G1 ad1 H1 _ s1 rs1 rv k => ?_)
  refine hb σ H1 G1 ad1 ρ st1 _ rs1 (rl.step s1) (Post.bind k fun z st2 u G2 ad2 H2 _ s2 rs2 ru k2 => ?_)
  refine o σ H2 G2 ad2 st2 v w u z _ rs2 (rv.step s2) ru (Post.bind k2 fun y st3 q G3 ad3 H3 _ s3 rs3 rq k3 => ?_)
  obtain ⟨k', rfl, k4⟩ := asB_post rq k3
  refine ⟨_, rfl, ?_⟩
  cases k' with
  | true =>
    refine hc σ H3 G3 ad3 ρ st3 _ rs3 (rl.step (s1.trans (s2.trans s3))) (Post.bind k4 fun y4 st4 q4 G4 ad4 H4 _ s4 rs4 rq4 k5 => ?_)
    exact o' σ H4 G4 ad4 st4 u z q4 y4 Q rs4 (ru.step (s3.trans s4)) rq4 k5
  | false => exact k4 _ G3 ad3 H3 .refl rs3 (.d (.bl false))

/-! ### comparisons -/
abbrev pLt : Int → Int → Bool := fun i j => decide (i < j)
abbrev pLe : Int → Int → Bool := fun i j => decide (i ≤ j)
abbrev pGt : Int → Int → Bool := fun i j => decide (j < i)
abbrev pGe : Int → Int → Bool := fun i j => decide (j ≤ i)
/-- a comparison, as a value and as a test -/
theorem fe_cmp {op : CmpOp} {g : W → W → Sto → R W} {r : R2} (o : Op2 X Wx g r) (h : OpR X (compareOp op) r) (ha : FE X Wx a Fa) (hb : FE X Wx b Fb) (hm : behindInMarks op b = false) : FE X Wx (.Compare a [op] [b] pos) (c2 g Fa Fb) :=
  fe_2 o ha hb fun _ _ p q => pe_cmpR h p q hm
theorem ft_cmp {op : CmpOp} {g : W → W → Sto → R W} {r : R2} (o : Op2 X Wx g r) (h : OpR X (compareOp op) r) (ha : FE X Wx a Fa) (hb : FE X Wx b Fb) (hm : behindInMarks op b = false) : FT X Wx (.Compare a [op] [b] pos) (tB (c2 g Fa Fb)) :=
  ft_2 o ha hb fun _ _ p q => pt_cmpR h p q hm
/-- x is None -/
def isNon : W → Bool
  | .d .none => true
  | _ => false
def gIsN (w z : W) (st : Sto) : R W := if isNon z = true then .ok (.d (.bool (isNon w))) st else .bad
def gNotN (w z : W) (st : Sto) : R W := if isNon z = true then .ok (.d (.bool (!isNon w))) st else .bad
theorem isNon_iff {C : Wd} {G : Hp} {ad : List Addr} {v : V} {w : W} (r : Wv C G ad v w) : isNon w = decide (v = .non) := by
  cases r with
  | d h => cases h <;> simp [isNon]
  | h _ => simp [isNon]
  | hs _ _ => simp [isNon]
  | fn => simp [isNon]
theorem isNon_of {C : Wd} {G : Hp} {ad : List Addr} {v : V} {w : W} (r : Wv C G ad v w) (h : isNon w = true) : v = .non := by
  rw [isNon_iff r] at h; exact of_decide_eq_true h
theorem o_isN : Op2 X Wx gIsN (fun x y H Q => y = .non ∧ Q (.bl (decide (x = .non))) H) := by
  intro σ H G ad st v w u z Q rs rv ru h
  unfold gIsN at h
  split at h
  · refine ⟨isNon_of ru (by assumption), ?_⟩
    rw [isNon_iff rv] at h
    exact h _ G ad H .refl rs (.d (.bl _))
  · exact h.elim
theorem o_notN : Op2 X Wx gNotN (fun x y H Q => y = .non ∧ Q (.bl (!decide (x = .non))) H) := by
  intro σ H G ad st v w u z Q rs rv ru h
  unfold gNotN at h
  split at h
  · refine ⟨isNon_of ru (by assumption), ?_⟩
    rw [isNon_iff rv] at h
    exact h _ G ad H .refl rs (.d (.bl _))
  · exact h.elim
end

/-! ### membership in lists and tuples -/
def fIn (neg : Bool) : PyData → PyData → Option PyData := fun x c => match c with
  | .list ds => if shp x = true ∧ shp (.list ds) = true then some (.bool (neg != ds.any fun z => PyData.eqv z x)) else none
  | .tuple ds => if shp x = true ∧ shp (.tuple ds) = true then some (.bool (neg != ds.any fun z => PyData.eqv z x)) else none
  | _ => none
def rInQ (K : PySem.W.Frag) (neg : Bool) : R2 := fun x y H Q => ∃ d c ds, (c = .list ds ∨ c = .tuple ds) ∧ Dp K H x d ∧ Dp K H y c ∧ SeqAt.shaped d = true ∧ SeqAt.shaped c = true ∧ Q (.bl (neg != ds.any fun z => PyData.eqv z d)) H
section
variable {X : Cx} {Wx : WX}
theorem room_tup {A : Around} {d : PyData} {ds : List PyData} (sd : SeqAt.shaped d = true) (hu : A.units + 100 < cLine) : A.units + 1 + min (PyData.depthAll ds) d.depth < cLine := by
  have h1 := SeqAt.depth_of_shaped sd
  have h2 : min (PyData.depthAll ds) d.depth ≤ d.depth := Nat.min_le_right _ _
  omega
theorem op_inQ (hu : Hu X) : OpR X (compareOp .In) (rInQ X.K false) := by
  intro pins s σ H x y v u Q I rx ry h
  obtain ⟨d, c, ds, hc, hd, he, sd, se, q⟩ := h
  obtain ⟨as, r1⟩ := Dp.reads I d x v hd rx
  obtain ⟨bs, r2⟩ := Dp.reads I c y u he ry
  simp only [Bool.false_bne] at q
  rcases hc with rfl | rfl
  · exact SeqAt.in_list_reads r2 r1 (SeqAt.canLay_of_shaped se) (SeqAt.canLay_of_shaped sd) (room_tup sd hu) ⟨.bl _, H, I, rfl, q⟩
  · exact SeqAt.in_tuple_reads r2 r1 (SeqAt.canLay_of_shaped se) (SeqAt.canLay_of_shaped sd) (room_tup sd hu) ⟨.bl _, H, I, rfl, q⟩
theorem op_notInQ (hu : Hu X) : OpR X (compareOp .NotIn) (rInQ X.K true) := by
  intro pins s σ H x y v u Q I rx ry h
  obtain ⟨d, c, ds, hc, hd, he, sd, se, q⟩ := h
  obtain ⟨as, r1⟩ := Dp.reads I d x v hd rx
  obtain ⟨bs, r2⟩ := Dp.reads I c y u he ry
  simp only [Bool.true_bne] at q
  rcases hc with rfl | rfl
  · exact SeqAt.notIn_list_reads r2 r1 (SeqAt.canLay_of_shaped se) (SeqAt.canLay_of_shaped sd) (room_tup sd hu) ⟨.bl _, H, I, rfl, q⟩
  · exact SeqAt.notIn_tuple_reads r2 r1 (SeqAt.canLay_of_shaped se) (SeqAt.canLay_of_shaped sd) (room_tup sd hu) ⟨.bl _, H, I, rfl, q⟩
theorem o_in {neg : Bool} : Op2 X Wx (g2 (fIn neg)) (rInQ X.K neg) := op2_of fun σ H G ad st v w u z x y d Q rs rv ru e1 e2 e h => by
  unfold fIn at e
  split at e
  · split at e
    · cases e
      rename_i hz
      exact ⟨x, _, _, .inl rfl, dp_shaped (der_dv rs rv e1) hz.1, dp_shaped (der_dv rs ru e2) hz.2, hz.1, hz.2, h.val rs (.bl _)⟩
    · cases e
  · split at e
    · cases e
      rename_i hz
      exact ⟨x, _, _, .inr rfl, dp_shaped (der_dv rs rv e1) hz.1, dp_shaped (der_dv rs ru e2) hz.2, hz.1, hz.2, h.val rs (.bl _)⟩
    · cases e
  · cases e
end

/-! ### displays -/
/-- frozen: the data, and the store behind -/
def frz : W → Sto → Option (PyData × Sto)
  | .d x, st => some (x, st)
  | .h n, st => match st[n]? with
    | some m => some (m.c.data, st.set n ⟨false, m.c⟩)
    | none => none
  | _, _ => none
def frzs : List W → Sto → Option (List PyData × Sto)
  | [], st => some ([], st)
  | w :: ws, st => (frz w st).bind fun p => (frzs ws p.2).map fun q => (p.1 :: q.1, q.2)
@[simp] theorem frz_d (x : PyData) (st : Sto) : frz (.d x) st = some (x, st) := rfl
@[simp] theorem frzs_nil (st : Sto) : frzs [] st = some ([], st) := rfl
@[simp] theorem frzs_cons (w : W) (ws : List W) (st : Sto) : frzs (w :: ws) st = (frz w st).bind fun p => (frzs ws p.2).map fun q => (p.1 :: q.1, q.2) := rfl
section
variable {C : Wd} {G : Hp} {ad : List Addr} {H : Hp} {st st' : Sto}
theorem frz_ok {v : V} {w : W} {x : PyData} (rs : RepS C G ad st H) (r : Wv C G ad v w) (e : frz w st = some (x, st')) : ∃ G', Step G ad H G' ad H ∧ RepS C G' ad st' H ∧ Dv C G' v x := by
  cases r with
  | d h => cases e; exact ⟨G, .refl, rs, h⟩
  | @h n a ha =>
    show ∃ G', _
    cases hm : st[n]? with
    | none => rw [show frz (.h n) st = (match st[n]? with | some m => some (m.c.data, st.set n ⟨false, m.c⟩) | none => none) from rfl, hm] at e; cases e
    | some m =>
      rw [show frz (.h n) st = (match st[n]? with | some m => some (m.c.data, st.set n ⟨false, m.c⟩) | none => none) from rfl, hm] at e
      cases e
      obtain ⟨lv, c⟩ := m
      cases lv with
      | true =>
        obtain ⟨o, ho, hg, rs', s'⟩ := rs.freeze ha hm
        refine ⟨_, s', rs', ?_⟩
        have hl : n < st.length := (List.getElem?_eq_some_iff.mp hm).1
        have q := rs'.obj n ⟨false, c⟩ a (by rw [List.getElem?_set_self hl]) ha
        cases c with
        | lst ds => obtain ⟨vs, q1, q2⟩ := q; exact .lst (SqL.of q1) q2
        | dic kvs => obtain ⟨xs, ep, q1, q2, q3⟩ := q; exact .dic q1 q2 q3
      | false =>
        have hl : n < st.length := (List.getElem?_eq_some_iff.mp hm).1
        have es : st.set n ⟨false, c⟩ = st := by
          apply List.ext_getElem?
          intro k
          by_cases hk : n = k
          · subst hk; rw [List.getElem?_set_self hl, hm]
          · rw [List.getElem?_set_ne hk]
        refine ⟨G, .refl, by rw [es]; exact rs, ?_⟩
        have q := rs.obj n ⟨false, c⟩ a hm ha
        cases c with
        | lst ds => obtain ⟨vs, q1, q2⟩ := q; exact .lst (SqL.of q1) q2
        | dic kvs => obtain ⟨xs, ep, q1, q2, q3⟩ := q; exact .dic q1 q2 q3
  | hs _ _ => cases e
  | fn => cases e
theorem frzs_ok : ∀ {vs : List V} {ws : List W} {xs : List PyData} {G : Hp} {st st' : Sto}, RepS C G ad st H → WvAll C G ad vs ws → frzs ws st = some (xs, st') → ∃ G', Step G ad H G' ad H ∧ RepS C G' ad st' H ∧ DvAll C G' vs xs
  | _, _, _, _, _, _, rs, .nil, e => by cases e; exact ⟨_, .refl, rs, .nil⟩
  | _, _, _, _, st, _, rs, .cons (b := w) (l₂ := ws) r t, e => by
    rw [frzs_cons] at e
    cases e1 : frz w st with
    | none => rw [e1] at e; cases e
    | some p =>
      obtain ⟨x, st1⟩ := p
      rw [e1] at e
      simp only [Option.bind_some] at e
      cases e2 : frzs ws st1 with
      | none => rw [e2] at e; cases e
      | some q =>
        obtain ⟨ys, st2⟩ := q
        rw [e2] at e
        cases e
        obtain ⟨G1, s1, rs1, d1⟩ := frz_ok rs r e1
        have t1 : WvAll C G1 ad _ ws := Paired.imp' (fun _ _ h => Wv.step s1 h) t
        obtain ⟨G2, s2, rs2, d2⟩ := frzs_ok rs1 t1 e2
        exact ⟨G2, s1.trans s2, rs2, .cons (d1.le s2.gle) d2⟩
end
theorem WvAll.length {C : Wd} {G : Hp} {ad : List Addr} : ∀ {vs : List V} {ws : List W}, WvAll C G ad vs ws → vs.length = ws.length
  | _, _, .nil => rfl
  | _, _, .cons _ r => by simp [WvAll.length r]
def gSeq (f : List PyData → PyData) (ws : List W) (st : Sto) : R W := if ws.length ≤ 1000 then match frzs ws st with | some (xs, st') => .ok (.d (f xs)) st' | none => .bad else .bad
def gLstH (ws : List W) (st : Sto) : R W := if ws.length ≤ 1000 then match frzs ws st with | some (xs, st') => .ok (.h st'.length) (st' ++ [⟨true, .lst xs⟩]) | none => .bad else .bad
section
variable {X : Cx} {Wx : WX} {es : List Expr} {FAs : AF} {pos : Pos}
theorem Step.post {α U : Type} {G G1 H : Hp} {ad : List Addr} {σ : L2.St} {rel : Hp → List Addr → U → α → Prop} {r : R α} {Q : U → Hp → Prop} (s : Step G ad H G1 ad H) (h : Post X Wx G ad H σ rel r Q) : Post X Wx G1 ad H σ rel r Q := h.mono s
theorem fe_tup {x1} (h : FA X Wx es FAs) : FE X Wx (.Tuple es x1 pos) (cA (gSeq .tuple) FAs) := fe_A (r := fun xs H Q => xs.length ≤ sizeLine ∧ ∀ p, H p = none → Q (.ref p) (upd H p (.tup xs))) (by
  intro σ H G ad st vs ws Q rs rv h
  unfold gSeq at h
  split at h
  · rename_i hl
    split at h
    · rename_i xs st' e
      obtain ⟨G1, s1, rs1, d1⟩ := frzs_ok rs rv e
      refine ⟨by rw [WvAll.length rv]; exact Nat.le_trans hl (by decide), Post.newTup (h.mono s1) rs1 d1⟩
    · exact h.elim
  · exact h.elim) h fun t p => pe_tup p
theorem fe_lst (h : FA X Wx es FAs) : FE X Wx (.List es pos) (cA (gSeq .list) FAs) := fe_A (r := fun xs H Q => xs.length ≤ sizeLine ∧ ∀ p, H p = none → Q (.ref p) (upd H p (.lst xs))) (by
  intro σ H G ad st vs ws Q rs rv h
  unfold gSeq at h
  split at h
  · rename_i hl
    split at h
    · rename_i xs st' e
      obtain ⟨G1, s1, rs1, d1⟩ := frzs_ok rs rv e
      refine ⟨by rw [WvAll.length rv]; exact Nat.le_trans hl (by decide), Post.newLst (h.mono s1) rs1 d1⟩
    · exact h.elim
  · exact h.elim) h fun t p => pe_lst p
/-- a display behind a handle -/
theorem fe_lstH (h : FA X Wx es FAs) : FE X Wx (.List es pos) (cA gLstH FAs) := fe_A (r := fun xs H Q => xs.length ≤ sizeLine ∧ ∀ p, H p = none → Q (.ref p) (upd H p (.lst xs))) (by
  intro σ H G ad st vs ws Q rs rv h
  unfold gLstH at h
  split at h
  · rename_i hl
    split at h
    · rename_i xs st' e
      obtain ⟨G1, s1, rs1, d1⟩ := frzs_ok rs rv e
      refine ⟨by rw [WvAll.length rv]; exact Nat.le_trans hl (by decide), fun p hp => ?_⟩
      have rs2 := rs1.newH (c := .lst xs) (o := .lst vs) hp ⟨rs1.sub.none hp, vs, upd_same, d1⟩
      exact (h.mono s1) _ G1 _ _ (Step.newH hp) rs2 (.h (by rw [rs1.len]; simp))
    · exact h.elim
  · exact h.elim) h fun t p => pe_lst p
end
end Fx

namespace Fx
open PySem PySem.Spec L2
open PyProof.Rows hiding St

/-- a statement's end -/
inductive SR where
  | nx (ρ : Lv) (st : Sto) | rt (w : W) (st : Sto) | bk (ρ : Lv) (st : Sto) | ct (ρ : Lv) (st : Sto) | exc (c : Str) (ρ : Lv) (st : Sto) | bad
abbrev SF := Lv → Sto → SR
def PostS (X : Cx) (Wx : WX) (G : Hp) (ad : List Addr) (H : Hp) (r : SR) (D : Ends) : Prop := match r with
  | .nx ρ st => ∀ σ' G' ad' H', Step G ad H G' ad' H' → RepS (wd X) G' ad' st H' → RepL (wd X) G' ad' ρ σ' → D.nx σ' H'
  | .rt w st => ∀ v G' ad' H', Step G ad H G' ad' H' → RepS (wd X) G' ad' st H' → Wv (wd X) G' ad' v w → D.rt v H'
  | .bk ρ st => ∀ σ' G' ad' H', Step G ad H G' ad' H' → RepS (wd X) G' ad' st H' → RepL (wd X) G' ad' ρ σ' → D.bk σ' H'
  | .ct ρ st => ∀ σ' G' ad' H', Step G ad H G' ad' H' → RepS (wd X) G' ad' st H' → RepL (wd X) G' ad' ρ σ' → D.ct σ' H'
  | .exc c ρ st => ∃ C, X.mg c = some (.ref C) ∧ ∀ σ' G' ad' H', Step G ad H G' ad' H' → RepS (wd X) G' ad' st H' → RepL (wd X) G' ad' ρ σ' → Wx (.ref C) none σ' H'
  | .bad => False
theorem PostS.mono {X : Cx} {Wx : WX} {G : Hp} {ad : List Addr} {H : Hp} {r : SR} {D : Ends} {G1 : Hp} {ad1 : List Addr} {H1 : Hp} (s : Step G ad H G1 ad1 H1) (h : PostS X Wx G ad H r D) : PostS X Wx G1 ad1 H1 r D := by
  cases r with
  | nx ρ st => exact fun σ' G' ad' H' s' => h σ' G' ad' H' (s.trans s')
  | rt w st => exact fun v G' ad' H' s' => h v G' ad' H' (s.trans s')
  | bk ρ st => exact fun σ' G' ad' H' s' => h σ' G' ad' H' (s.trans s')
  | ct ρ st => exact fun σ' G' ad' H' s' => h σ' G' ad' H' (s.trans s')
  | exc c ρ st => obtain ⟨C, m, k⟩ := h; exact ⟨C, m, fun σ' G' ad' H' s' => k σ' G' ad' H' (s.trans s')⟩
  | bad => exact h
/-- an expression's result within a statement -/
def R.s {α : Type} (r : R α) (ρ : Lv) (k : α → Sto → SR) : SR := match r with
  | .ok a st => k a st | .exc c st => .exc c ρ st | .bad => .bad
@[simp] theorem R.s_ok {α : Type} (a : α) (st : Sto) (ρ : Lv) (k : α → Sto → SR) : (R.ok a st).s ρ k = k a st := rfl
@[simp] theorem R.s_exc {α : Type} (c : Str) (st : Sto) (ρ : Lv) (k : α → Sto → SR) : (R.exc c st : R α).s ρ k = .exc c ρ st := rfl
@[simp] theorem R.s_bad {α : Type} (ρ : Lv) (k : α → Sto → SR) : (R.bad : R α).s ρ k = .bad := rfl
theorem PostS.ex {U α : Type} {X : Cx} {Wx : WX} {G : Hp} {ad : List Addr} {H : Hp} {σ : L2.St} {ρ : Lv} {rel : Hp → List Addr → U → α → Prop} {r : R α} {f : α → Sto → SR} {D : Ends} {Q : U → Hp → Prop} (rl : RepL (wd X) G ad ρ σ)
    (h : PostS X Wx G ad H (r.s ρ f) D)
    (k : ∀ w st v G' ad' H', Step G ad H G' ad' H' → RepS (wd X) G' ad' st H' → rel G' ad' v w → PostS X Wx G' ad' H' (f w st) D → Q v H') : Post X Wx G ad H σ rel r Q := by
  cases r with
  | ok w st => exact fun v G' ad' H' s rs rv => k w st v G' ad' H' s rs rv (PostS.mono s h)
  | exc c st => obtain ⟨C, m, q⟩ := h; exact ⟨C, m, fun G' ad' H' s rs => q σ G' ad' H' s rs (rl.step s)⟩
  | bad => exact h

def FS (X : Cx) (Wx : WX) (s : Stmt) (F : SF) : Prop := ∃ t : TS, PS X s t ∧ ∀ σ H G ad ρ st D, RepS (wd X) G ad st H → RepL (wd X) G ad ρ σ → PostS X Wx G ad H (F ρ st) D → t D σ H
def FSs (X : Cx) (Wx : WX) (s : List Stmt) (F : SF) : Prop := ∃ t : TS, PSs X s t ∧ ∀ σ H G ad ρ st D, RepS (wd X) G ad st H → RepL (wd X) G ad ρ σ → PostS X Wx G ad H (F ρ st) D → t D σ H

def sNx : SF := fun ρ st => .nx ρ st
def sSeq (F K : SF) : SF := fun ρ st => match F ρ st with | .nx ρ' st' => K ρ' st' | r => r
def sSet (i : Nat) (a : EF) : SF := fun ρ st => (a ρ st).s ρ fun w st => .nx (ρ.set i (some w)) st
def sRet (a : EF) : SF := fun ρ st => (a ρ st).s ρ fun w st => .rt w st
def sRetN : SF := fun _ st => .rt (.d .none) st
def sExpr (a : EF) : SF := fun ρ st => (a ρ st).s ρ fun _ st => .nx ρ st
def sIf (c : TF) (F K : SF) : SF := fun ρ st => (c ρ st).s ρ fun b st => if b = true then F ρ st else K ρ st
def sBk : SF := fun ρ st => .bk ρ st
def sCt : SF := fun ρ st => .ct ρ st
def sRaise (c : Str) : SF := fun ρ st => .exc c ρ st
def sBad : SF := fun _ _ => .bad
section
variable {X : Cx} {Wx : WX} {s : Stmt} {ss ss' : List Stmt} {F K : SF} {e : Expr} {Fe : EF} {T : TF} {pos : Pos}
theorem fss_nil : FSs X Wx [] sNx := ⟨_, pss_nil, fun σ H G ad ρ st D rs rl h => h σ G ad H .refl rs rl⟩
theorem fss_cons (h1 : FS X Wx s F) (h2 : FSs X Wx ss K) : FSs X Wx (s :: ss) (sSeq F K) := by
  obtain ⟨t1, p1, k1⟩ := h1
  obtain ⟨t2, p2, k2⟩ := h2
  refine ⟨_, pss_cons p1 p2, fun σ H G ad ρ st D rs rl h => ?_⟩
  refine k1 σ H G ad ρ st _ rs rl ?_
  unfold sSeq at h
  generalize F ρ st = r at h ⊢
  cases r with
  | nx ρ1 st1 => exact fun σ' G' ad' H' s' rs' rl' => k2 σ' H' G' ad' ρ1 st1 D rs' rl' (PostS.mono s' h)
  | _ => exact h
theorem fss_one (h1 : FS X Wx s F) : FSs X Wx [s] F := let ⟨t, p, k⟩ := h1; ⟨t, pss_one p, k⟩
theorem fs_pass : FS X Wx (.Pass pos) sNx := ⟨_, ps_pass, fun σ H G ad ρ st D rs rl h => h σ G ad H .refl rs rl⟩
theorem fs_break : FS X Wx (.Break pos) sBk := ⟨_, ps_break, fun σ H G ad ρ st D rs rl h => h σ G ad H .refl rs rl⟩
theorem fs_continue : FS X Wx (.Continue pos) sCt := ⟨_, ps_continue, fun σ H G ad ρ st D rs rl h => h σ G ad H .refl rs rl⟩
theorem fs_never : FS X Wx s sBad := ⟨_, ps_never, fun _ _ _ _ _ _ _ _ _ h => h.elim⟩
theorem fs_set {i : Nat} {x : Str} {pos' : Pos} (hN : X.N.Nodup) (hi : X.N[i]? = some x) (hx : Loc X.env.scope x) (he : FE X Wx e Fe) (hs : swapsWith e (some (.Name x pos')) pos.line X.env = pure false := by rfl) (hf : X.fn x = true ∨ X.env.scope.names.lookup x = some .local := by first | exact .inl rfl | exact .inr rfl | assumption) :
    FS X Wx (.Assign [.Name x pos'] e pos) (sSet i Fe) := by
  obtain ⟨t, p, k⟩ := he
  refine ⟨_, ps_set hN hi hx p hs hf, fun σ H G ad ρ st D rs rl h => ?_⟩
  refine k σ H G ad ρ st _ rs rl (PostS.ex rl h fun w st1 v G1 ad1 H1 s1 rs1 rv q => ?_)
  exact q _ G1 ad1 H1 .refl rs1 ((rl.step s1).set rv)
theorem fs_ret (he : FE X Wx e Fe) : FS X Wx (.Return (some e) pos) (sRet Fe) := by
  obtain ⟨t, p, k⟩ := he
  refine ⟨_, ps_ret p, fun σ H G ad ρ st D rs rl h => ?_⟩
  exact k σ H G ad ρ st _ rs rl (PostS.ex rl h fun w st1 v G1 ad1 H1 s1 rs1 rv q => q _ G1 ad1 H1 .refl rs1 rv)
theorem fs_retN : FS X Wx (.Return none pos) sRetN := ⟨_, ps_retN, fun σ H G ad ρ st D rs rl h => h _ G ad H .refl rs (.d .non)⟩
theorem fs_expr (he : FE X Wx e Fe) (hs : swapsWith e none pos.line X.env = pure false := by rfl) : FS X Wx (.Expr e pos) (sExpr Fe) := by
  obtain ⟨t, p, k⟩ := he
  refine ⟨_, ps_expr p hs, fun σ H G ad ρ st D rs rl h => ?_⟩
  exact k σ H G ad ρ st _ rs rl (PostS.ex rl h fun w st1 v G1 ad1 H1 s1 rs1 rv q => q _ G1 ad1 H1 .refl rs1 (rl.step s1))
theorem fs_if {c : Expr} (hc : FT X Wx c T) (ha : FSs X Wx ss F) (hb : FSs X Wx ss' K) : FS X Wx (.If c ss ss' pos) (sIf T F K) := by
  obtain ⟨tc, pc, kc⟩ := hc
  obtain ⟨ta, pa, ka⟩ := ha
  obtain ⟨tb, pb, kb⟩ := hb
  refine ⟨_, ps_if pc pa pb, fun σ H G ad ρ st D rs rl h => ?_⟩
  refine kc σ H G ad ρ st _ rs rl (PostS.ex rl h fun w st1 v G1 ad1 H1 s1 rs1 rv q => ?_)
  obtain rfl : v = w := rv
  cases v with
  | true => exact ka σ H1 G1 ad1 ρ st1 D rs1 (rl.step s1) q
  | false => exact kb σ H1 G1 ad1 ρ st1 D rs1 (rl.step s1) q
theorem fs_raise {x m : Str} {j : Nat} {p p2 pos2 : Pos} {C : Addr} {bm : List Value} {B newId initId : String} (hc : X.calm = true) (tk : L2N.Takes X Wx) (Fb : ExcBaseFacts B newId initId bm) (q : PySem.W.excIn X.K C bm newId = true) (gC : X.mg x = some (.ref C)) (kC : PySem.W.keepIn X.K (.ref C) = true)
    (h1 : PySem.W.subIn X.K (.ref C) (.type "BaseException") = some true) (h2 : PySem.W.typeIn X.K (.ref C) = some (.type "type")) (hg : Gl X x) (hdb : (x == ("__debug__" : Str)) = false := by decide) :
    FS X Wx (.Raise (some (.Call (.Name x p) [.Constant (.str m) j p2] [] pos2)) none pos) (sRaise x) :=
  ⟨_, L2N.ps_raise hc tk (L2N.pmk_own Fb q gC kC (raises_own h1 h2) hg hdb), fun σ H G ad ρ st D rs rl h => by
    obtain ⟨C', m', k⟩ := h
    rw [gC] at m'
    cases m'
    exact k σ G ad H .refl rs rl⟩
end

/-! ### targets -/
abbrev GF := W → Lv → Sto → Option Lv
/-- σ' is σ but at the slots sl -/
def But (sl : List Nat) (σ σ' : L2.St) : Prop := σ'.length = σ.length ∧ ∀ i, i ∉ sl → σ'[i]? = σ[i]?
def FG (X : Cx) (tg : Expr) (g : GF) (sl : List Nat) : Prop := ∃ t : TG, PG X tg t ∧ ∀ v w σ H G ad ρ st ρ' Q, RepS (wd X) G ad st H → RepL (wd X) G ad ρ σ → Wv (wd X) G ad v w → g w ρ st = some ρ' → (∀ σ', But sl σ σ' → RepL (wd X) G ad ρ' σ' → Q σ' H) → t v σ H Q
abbrev GsF := List PyData → Lv → Sto → Option Lv
def FGs (X : Cx) (tg : List Expr) (g : GsF) (sl : List Nat) : Prop := ∃ t : TGs, PGs X tg t ∧ ∀ vs ds σ H G ad ρ st ρ' Q, RepS (wd X) G ad st H → RepL (wd X) G ad ρ σ → DvAll (wd X) G vs ds → g ds ρ st = some ρ' → (∀ σ', But sl σ σ' → RepL (wd X) G ad ρ' σ' → Q σ' H) → t vs σ H Q
def gN (i : Nat) : GF := fun w ρ _ => some (ρ.set i (some w))
def gsNil : GsF := fun ds ρ _ => match ds with | [] => some ρ | _ => none
def gsCons (g : GF) (k : GsF) : GsF := fun ds ρ st => match ds with | d :: ds => (g (.d d) ρ st).bind fun ρ => k ds ρ st | [] => none
def gT (n : Nat) (k : GsF) : GF := fun w ρ st => match der st w with | some (.tuple ds) => if ds.length = n then k ds ρ st else none | _ => none
section
variable {X : Cx} {pos : Pos}
theorem fg_name {i : Nat} {x : Str} (hN : X.N.Nodup) (hi : X.N[i]? = some x) (hx : Loc X.env.scope x) (hf : X.fn x = true ∨ X.env.scope.names.lookup x = some .local := by first | exact .inl rfl | exact .inr rfl | assumption) : FG X (.Name x pos) (gN i) [i] :=
  ⟨_, pg_name hN hi hx hf, fun v w σ H G ad ρ st ρ' Q rs rl rv e h => by cases e; exact h _ ⟨by simp, fun j hj => by rw [List.getElem?_set_ne (by simpa using fun z => hj (by simp [z]))]⟩ (rl.set rv)⟩
theorem fgs_nil : FGs X [] gsNil [] := ⟨_, pgs_nil, fun vs ds σ H G ad ρ st ρ' Q rs rl rv e h => by
  cases rv with
  | nil => cases e; exact ⟨rfl, h _ ⟨rfl, fun _ _ => rfl⟩ rl⟩
  | cons _ _ => cases e⟩
theorem fgs_cons {e : Expr} {es : List Expr} {g : GF} {k : GsF} {sl sl' : List Nat} (h1 : FG X e g sl) (h2 : FGs X es k sl') (hs : (assignEach (e :: es) X.env).map (·.2) = assign e X.env :: (assignEach es X.env).map (·.2) := by rfl) : FGs X (e :: es) (gsCons g k) (sl ++ sl') := by
  obtain ⟨t1, p1, k1⟩ := h1
  obtain ⟨t2, p2, k2⟩ := h2
  refine ⟨_, pgs_cons p1 p2 hs, fun vs ds σ H G ad ρ st ρ' Q rs rl rv e h => ?_⟩
  cases rv with
  | nil => cases e
  | @cons v vs d ds hv hr =>
    have e : (g (.d d) ρ st).bind (fun ρ => k ds ρ st) = some ρ' := e
    cases e1 : g (.d d) ρ st with
    | none => rw [e1] at e; cases e
    | some ρ1 =>
      rw [e1] at e
      exact ⟨_, _, rfl, k1 _ _ σ H G ad ρ st ρ1 _ rs rl (.d hv) e1 fun σ1 b1 rl1 => k2 _ _ σ1 H G ad ρ1 st ρ' Q rs rl1 hr e fun σ2 b2 => h σ2 ⟨b2.1.trans b1.1, fun i hi => (b2.2 i fun z => hi (List.mem_append_right _ z)).trans (b1.2 i fun z => hi (List.mem_append_left _ z))⟩⟩
theorem fg_tup {es : List Expr} {j : Nat} {k : GsF} {n : Nat} {sl : List Nat} (hc : X.calm = true) (h : FGs X es k sl) (hn : (assignEach es X.env).length = n := by rfl) (hst : (assignEach es X.env).findIdx? (·.1) = none := by rfl) : FG X (.Tuple es j pos) (gT n k) sl := by
  obtain ⟨t, p, q⟩ := h
  refine ⟨_, pg_tup hc p hn hst, fun v w σ H G ad ρ st ρ' Q rs rl rv e h => ?_⟩
  unfold gT at e
  split at e
  · rename_i ds e1
    split at e
    · rename_i hl
      obtain ⟨a, vs, rfl, s1, r1, _⟩ := der_tup rs rv e1
      exact ⟨a, vs, rfl, s1, by rw [r1.length]; exact hl, q vs ds σ H G ad ρ st ρ' Q rs rl r1 e h⟩
    · cases e
  · cases e
end
def sAsg (g : GF) (a : EF) : SF := fun ρ st => (a ρ st).s ρ fun w st => match g w ρ st with | some ρ' => .nx ρ' st | none => .bad
section
variable {X : Cx} {Wx : WX} {e tg : Expr} {Fe : EF} {g : GF} {pos : Pos} {sl : List Nat}
theorem fs_asg (he : FE X Wx e Fe) (hg : FG X tg g sl) (hs : swapsWithSole [tg] e pos.line X.env = pure false := by rfl) (hw : swappedStores [tg] e X.env = pure none := by rfl)
    (h1 : (assignEach [tg] X.env).map (·.2) = [assign tg X.env] := by rfl) : FS X Wx (.Assign [tg] e pos) (sAsg g Fe) := by
  obtain ⟨t, p, k⟩ := he
  obtain ⟨tt, pt, kt⟩ := hg
  refine ⟨_, ps_asg p pt hs hw h1, fun σ H G ad ρ st D rs rl h => ?_⟩
  refine k σ H G ad ρ st _ rs rl (PostS.ex rl h fun w st1 v G1 ad1 H1 s1 rs1 rv q => ?_)
  split at q
  · rename_i ρ' e1
    exact kt v w σ H1 G1 ad1 ρ st1 ρ' _ rs1 (rl.step s1) rv e1 fun σ' _ rl' => q σ' G1 ad1 H1 .refl rs1 rl'
  · exact q.elim
end
/-! ### parallel assignments -/
def sPar2 (i j : Nat) (a : AF) : SF := fun ρ st => (a ρ st).s ρ fun ws st => match ws with | [x, y] => .nx ((ρ.set i (some x)).set j (some y)) st | _ => .bad
def sPar3 (i j k : Nat) (a : AF) : SF := fun ρ st => (a ρ st).s ρ fun ws st => match ws with | [x, y, z] => .nx (((ρ.set i (some x)).set j (some y)).set k (some z)) st | _ => .bad
section
variable {X : Cx} {Wx : WX} {FAs : AF} {pos : Pos}
theorem fs_par2 {i j : Nat} {x y : Str} {a b : Expr} {px py pt : Pos} {kt k2 pt2} (hc : X.calm = true) (hN : X.N.Nodup) (hi : X.N[i]? = some x) (hj : X.N[j]? = some y) (hij : i ≠ j)
    (hx : X.env.scope.names.lookup x = some .local) (hy : X.env.scope.names.lookup y = some .local) (ha : FA X Wx [a, b] FAs)
    (hw : swappedStores [.Tuple [.Name x px, .Name y py] kt pt] (.Tuple [a, b] k2 pt2) X.env = pure (some [x, y]))
    (hs : swapsWithSole [.Tuple [.Name x px, .Name y py] kt pt] (.Tuple [a, b] k2 pt2) pos.line X.env = pure false := by rfl) :
    FS X Wx (.Assign [.Tuple [.Name x px, .Name y py] kt pt] (.Tuple [a, b] k2 pt2) pos) (sPar2 i j FAs) := by
  obtain ⟨t, p, k, _⟩ := ha
  refine ⟨_, ps_par hc hN hi hj hij hx hy p hw hs, fun σ H G ad ρ st D rs rl h => ?_⟩
  refine k σ H G ad ρ st _ rs rl (PostS.ex rl h fun w st1 v G1 ad1 H1 s1 rs1 rv q => ?_)
  split at q
  · cases rv with
    | cons r1 rv => cases rv with
      | cons r2 rv => cases rv; exact ⟨_, _, rfl, q _ G1 ad1 H1 .refl rs1 (((rl.step s1).set r1).set r2)⟩
  · exact q.elim
end

/-! ### what a for walks -/
/-- J yields ws, from the state (G, ad) on, whatever is laid or changed behind -/
def Iters (C : Wd) (G : Hp) (ad : List Addr) (J : It) (ws : List W) : Prop := ∀ G1 ad1 H1, Le G G1 → ad <+: ad1 → Le G1 H1 →
  (∀ i w, ws[i]? = some w → J.go i H1 ∧ ∀ x H', J.yld i H1 x H' → ∃ G', (∀ st, RepS C G1 ad1 st H1 → Step G1 ad1 H1 G' ad1 H' ∧ RepS C G' ad1 st H' ∧ Wv C G' ad1 x w)) ∧ J.stop ws.length H1
def FI (X : Cx) (Wx : WX) (tg iter : Expr) (F : AF) : Prop := ∃ wi : TI, PI X tg iter wi ∧ ∀ σ H G ad ρ st (Q : It → Hp → Prop), RepS (wd X) G ad st H → RepL (wd X) G ad ρ σ →
  Post X Wx G ad H σ (fun G' ad' (J : It) ws => Iters (wd X) G' ad' J ws) (F ρ st) Q → wi σ H Q
def forF (g : GF) (F : SF) : List W → SF
  | [], ρ, st => .nx ρ st
  | w :: ws, ρ, st => match g w ρ st with
    | none => .bad
    | some ρ1 => match F ρ1 st with
      | .nx ρ2 st2 => forF g F ws ρ2 st2
      | .ct ρ2 st2 => forF g F ws ρ2 st2
      | .bk ρ2 st2 => .nx ρ2 st2
      | r => r
def sFor (it : AF) (g : GF) (F : SF) : SF := fun ρ st => (it ρ st).s ρ fun ws st => forF g F ws ρ st
section
variable {X : Cx} {Wx : WX} {tg iter : Expr} {body : List Stmt} {FAs : AF} {g : GF} {F : SF} {pos : Pos} {sl : List Nat}
theorem fs_for (hp : PassesOwn (model X.prog X.w) X.A X.env X.xe) (hc : X.calm = true) (hi : FI X Wx tg iter FAs) (hg : FG X tg g sl) (hb : FSs X Wx body F) (hs : ∀ x, foldedSetIterable iter X.env x = pure x := by intro _; rfl) : FS X Wx (.For tg iter body [] pos) (sFor FAs g F) := by
  obtain ⟨wi, pi, ki⟩ := hi
  obtain ⟨tg', pg, kg⟩ := hg
  obtain ⟨tb, pb, kb⟩ := hb
  refine ⟨_, ps_for hp hc pi pg pb hs, fun σ H G ad ρ st D rs rl h => ?_⟩
  refine ki σ H G ad ρ st _ rs rl (PostS.ex rl h fun ws st1 J G1 ad1 H1 s1 rs1 rJ q => ?_)
  have rl1 := rl.step s1
  refine ⟨fun i m σ' H' => m = ws.length - i ∧ i ≤ ws.length ∧ ∃ G2 ad2 ρ2 st2, Step G1 ad1 H1 G2 ad2 H' ∧ RepS (wd X) G2 ad2 st2 H' ∧ RepL (wd X) G2 ad2 ρ2 σ' ∧ PostS X Wx G2 ad2 H' (forF g F (ws.drop i) ρ2 st2) D,
    ⟨_, rfl, Nat.zero_le _, G1, ad1, ρ, st1, .refl, rs1, rl1, q⟩, ?_⟩
  rintro i m σ2 H2 ⟨rfl, hi, G2, ad2, ρ2, st2, s2, rs2, rl2, q2⟩
  obtain ⟨hgo, hstop⟩ := rJ G2 ad2 H2 s2.gle s2.adp rs2.sub
  by_cases hlt : i < ws.length
  · have hw : ws[i]? = some ws[i] := List.getElem?_eq_getElem hlt
    obtain ⟨go, yld⟩ := hgo i ws[i] hw
    refine .inr ⟨go, fun σ' H' => ∃ G3 ad3 ρ3 st3, Step G1 ad1 H1 G3 ad3 H' ∧ RepS (wd X) G3 ad3 st3 H' ∧ RepL (wd X) G3 ad3 ρ3 σ' ∧ PostS X Wx G3 ad3 H' (forF g F (ws.drop (i + 1)) ρ3 st3) D,
      fun σ' H' hN => ⟨ws.length - (i + 1), by omega, rfl, hlt, hN⟩, fun x H' hy => ?_⟩
    obtain ⟨G', hG⟩ := yld x H' hy
    obtain ⟨s3, rs3, rx⟩ := hG st2 rs2
    rw [List.drop_eq_getElem_cons hlt] at q2
    have rl3 := rl2.step s3
    unfold forF at q2
    split at q2
    · exact q2.elim
    · rename_i ρ4 e4
      refine kg x ws[i] σ2 H' G' ad2 ρ2 st2 ρ4 _ rs3 rl3 rx e4 fun σ4 _ rl4 => ?_
      refine kb σ4 H' G' ad2 ρ4 st2 _ rs3 rl4 ?_
      have q3 := PostS.mono s3 q2
      generalize F ρ4 st2 = r at q3
      cases r with
      | nx ρ5 st5 => exact fun σ' G6 ad6 H6 s6 rs6 rl6 => ⟨G6, ad6, ρ5, st5, s2.trans (s3.trans s6), rs6, rl6, PostS.mono s6 q3⟩
      | ct ρ5 st5 => exact fun σ' G6 ad6 H6 s6 rs6 rl6 => ⟨G6, ad6, ρ5, st5, s2.trans (s3.trans s6), rs6, rl6, PostS.mono s6 q3⟩
      | bk ρ5 st5 => exact q3
      | rt w st5 => exact q3
      | exc c ρ5 st5 => exact q3
      | bad => exact q3
  · have e : i = ws.length := by omega
    subst e
    refine .inl ⟨hstop, ?_⟩
    rw [List.drop_length] at q2
    exact q2 σ2 G2 ad2 H2 .refl rs2 rl2
end

/-! ### while -/
def whileF (c : TF) (F : SF) : Nat → SF
  | 0, _, _ => .bad
  | n + 1, ρ, st => (c ρ st).s ρ fun b st => if b = true then match F ρ st with
      | .nx ρ2 st2 => whileF c F n ρ2 st2
      | .ct ρ2 st2 => whileF c F n ρ2 st2
      | .bk ρ2 st2 => .nx ρ2 st2
      | r => r
    else .nx ρ st
def sWhile (n : Nat) (c : TF) (F : SF) : SF := whileF c F n
section
variable {X : Cx} {Wx : WX} {c : Expr} {body : List Stmt} {T : TF} {F : SF} {pos : Pos}
theorem fs_while {n : Nat} (hp : PassesOwn (model X.prog X.w) X.A X.env X.xe) (hc : FT X Wx c T) (hb : FSs X Wx body F) : FS X Wx (.While c body [] pos) (sWhile n T F) := by
  obtain ⟨tc, pc, kc⟩ := hc
  obtain ⟨tb, pb, kb⟩ := hb
  refine ⟨_, ps_while hp pc pb, fun σ H G ad ρ st D rs rl h => ?_⟩
  refine ⟨fun m σ' H' => ∃ G2 ad2 ρ2 st2, Step G ad H G2 ad2 H' ∧ RepS (wd X) G2 ad2 st2 H' ∧ RepL (wd X) G2 ad2 ρ2 σ' ∧ PostS X Wx G2 ad2 H' (whileF T F m ρ2 st2) D, ⟨n, G, ad, ρ, st, .refl, rs, rl, h⟩, ?_⟩
  rintro m σ2 H2 ⟨G2, ad2, ρ2, st2, s2, rs2, rl2, q2⟩
  cases m with
  | zero => exact q2.elim
  | succ m =>
    refine kc σ2 H2 G2 ad2 ρ2 st2 _ rs2 rl2 (PostS.ex rl2 q2 fun b st3 v G3 ad3 H3 s3 rs3 rv q3 => ?_)
    obtain rfl : v = b := rv
    have rl3 := rl2.step s3
    cases v with
    | true =>
      refine ⟨fun σ' H' => ∃ G3 ad3 ρ3 st3, Step G ad H G3 ad3 H' ∧ RepS (wd X) G3 ad3 st3 H' ∧ RepL (wd X) G3 ad3 ρ3 σ' ∧ PostS X Wx G3 ad3 H' (whileF T F m ρ3 st3) D, fun σ' H' hN => ⟨m, Nat.lt_succ_self _, hN⟩, ?_⟩
      refine kb σ2 H3 G3 ad3 ρ2 st3 _ rs3 rl3 ?_
      simp only [if_true] at q3
      generalize F ρ2 st3 = r at q3
      cases r with
      | nx ρ5 st5 => exact fun σ' G6 ad6 H6 s6 rs6 rl6 => ⟨G6, ad6, ρ5, st5, s2.trans (s3.trans s6), rs6, rl6, PostS.mono s6 q3⟩
      | ct ρ5 st5 => exact fun σ' G6 ad6 H6 s6 rs6 rl6 => ⟨G6, ad6, ρ5, st5, s2.trans (s3.trans s6), rs6, rl6, PostS.mono s6 q3⟩
      | bk ρ5 st5 => exact q3
      | rt w st5 => exact q3
      | exc c ρ5 st5 => exact q3
      | bad => exact q3
    | false => exact q3 σ2 G3 ad3 H3 .refl rs3 rl3
end

/-- as Fun.okX, for exceptions whose context is None -/
theorem okXN {P : Program} {w : World} {K : PySem.W.Frag} {mg : Str → Option Value} {base : Heap} {x qual : Str} {st : Stmt} {f : Addr} {fd : FuncData} {N ps : List Str} {k : Nat} {sp : Sp} (F : Fun K x qual st f fd) (S : FnScope N ps (defScope st)) (len : ∀ vs H Q E, sp vs H Q E → vs.length = ps.length)
    (hbody : ∀ (cdv : Value) (A : Around) (outer : List Env) (s : Shared) (H : Hp) (vs : List V) (Q : VK) (E : XK), Room k (A.deeper (envOfC qual (defScope st) s.heap.objs.size f cdv)) → sp vs H Q E →
      ∃ t, PSs (cxOf (L2N.CX P w) P w K mg base N qual (defScope st) f cdv A outer s H E) (defBody st) t ∧ t { nx := fun _ H' => Q .non H', rt := Q } (L2.start N vs) H) : FnOk P w K mg base (L2N.CX P w) (k + 1) f fd ps sp := by
  obtain ⟨oc, od, kV, doc, pm, an, cdv, ct, osl, rfl, lk, hcd⟩ := F.ex
  exact fn_of lk hcd S len fun A outer s H vs Q E hr hsp => hbody cdv A outer s H vs Q E hr hsp
theorem takes0N {X : Cx} : L2N.Takes X (fun _ _ _ _ => False) := fun _ _ x => by
  obtain ⟨_, _, _, _, _, _, _, _, _, _, _, _, _, _, _, _, z⟩ := x
  exact z.elim
/-! ### a def -/
abbrev Den := List W → Sto → R W
def PostF (C : Wd) (mg : Str → Option Value) (G : Hp) (ad : List Addr) (H : Hp) (r : R W) (Q : VK) (E : XK) : Prop := match r with
  | .ok w st => ∀ v G' ad' H', Step G ad H G' ad' H' → RepS C G' ad' st H' → Wv C G' ad' v w → Q v H'
  | .exc c st => ∃ X, mg c = some (.ref X) ∧ ∀ G' ad' H', Step G ad H G' ad' H' → RepS C G' ad' st H' → E (.ref X) none H'
  | .bad => False
def spD (C : Wd) (mg : Str → Option Value) (np : Nat) (den : Den) : Sp := fun vs H Q E => vs.length = np ∧ ∃ G ad st ws, RepS C G ad st H ∧ WvAll C G ad vs ws ∧ PostF C mg G ad H (den ws st) Q E
/-- a body's end as a def's: the answer frozen, the def's own objects dropped -/
def finF (n : Nat) : SR → R W
  | .nx _ st => .ok (.d .none) (st.take n)
  | .rt w st => match frz w st with | some (x, st') => .ok (.d x) (st'.take n) | none => .bad
  | .exc c _ st => .exc c (st.take n)
  | _ => .bad
/-- k slots besides the parameters -/
def defF (k : Nat) (F : SF) : Den := fun ws st => finF st.length (F (ws.map some ++ List.replicate k none) st)
theorem WvAll.get {C : Wd} {G : Hp} {ad : List Addr} : ∀ {vs : List V} {ws : List W} {i : Nat} {w : W}, WvAll C G ad vs ws → ws[i]? = some w → ∃ v, vs[i]? = some v ∧ Wv C G ad v w
  | _, _, i, _, .nil, e => by simp at e
  | _, _, 0, _, .cons h _, e => by simp at e; subst e; exact ⟨_, rfl, h⟩
  | _, _, i + 1, _, .cons _ r, e => by
    obtain ⟨v, h1, h2⟩ := WvAll.get (i := i) r (by simpa using e)
    exact ⟨v, by simpa using h1, h2⟩
theorem repL_start {C : Wd} {G : Hp} {ad : List Addr} {vs : List V} {ws : List W} {N : List Str} {k : Nat} (r : WvAll C G ad vs ws) (hk : N.length = vs.length + k) : RepL C G ad (ws.map some ++ List.replicate k none) (L2.start N vs) := by
  have hl := r.length
  refine ⟨by unfold L2.start; simp; omega, fun i w e => ?_⟩
  by_cases hi : i < ws.length
  · rw [List.getElem?_append_left (by simpa using hi), List.getElem?_map] at e
    cases e1 : ws[i]? with
    | none => rw [e1] at e; cases e
    | some w' =>
      rw [e1] at e
      have e2 : w' = w := by simpa using e
      subst e2
      obtain ⟨v, h1, h2⟩ := WvAll.get r e1
      refine ⟨v, ?_, h2⟩
      unfold L2.start
      rw [List.getElem?_append_left (by simp; omega), List.getElem?_map, h1]
      rfl
  · rw [List.getElem?_append_right (by simpa using Nat.le_of_not_lt hi), List.getElem?_replicate] at e
    split at e <;> cases e
section
variable {P : Program} {w : World} {K : PySem.W.Frag} {mg : Str → Option Value} {base : Heap}
/-- THE RULE: a def by its body's denotation -/
theorem fd_of {x qual : Str} {s : Stmt} {f : Addr} {fd : FuncData} {N ps : List Str} {k j : Nat} {F : SF} (Fn : Fun K x qual s f fd) (S : FnScope N ps (defScope s)) (hj : N.length = ps.length + j)
    (hb : ∀ (cdv : Value) (A : Around) (outer : List Env) (s0 : Shared) (H : Hp) (E : XK), Room k (A.deeper (envOfC qual (defScope s) s0.heap.objs.size f cdv)) →
      FSs (cxOf (L2N.CX P w) P w K mg base N qual (defScope s) f cdv A outer s0 H E) (fun cls d _ H => E cls d H) (defBody s) F) :
    FnOk P w K mg base (L2N.CX P w) (k + 1) f fd ps (spD ⟨P, w, K⟩ mg ps.length (defF j F)) := by
  refine okXN Fn S (fun vs H Q E h => h.1) (fun cdv A outer s0 H vs Q E hr h => ?_)
  obtain ⟨hl, G, ad, st, ws, rs, rv, h⟩ := h
  obtain ⟨t, p, q⟩ := hb cdv A outer s0 H E hr
  refine ⟨t, p, q (L2.start N vs) H G ad (ws.map some ++ List.replicate j none) st _ rs (repL_start rv (by omega)) ?_⟩
  unfold defF at h
  have hlen := rs.len
  generalize F (ws.map some ++ List.replicate j none) st = r at h ⊢
  have cut : ∀ {G' ad' H'} {st' : Sto}, Step G ad H G' ad' H' → RepS ⟨P, w, K⟩ G' ad' st' H' → Step G ad H G' (ad'.take ad.length) H' ∧ RepS ⟨P, w, K⟩ G' (ad'.take ad.length) (st'.take st.length) H' := fun s' rs' => ⟨s'.cut, by rw [hlen]; exact rs'.cut _⟩
  cases r with
  | nx ρ' st' => exact fun σ' G' ad' H' s' rs' _ => h _ _ _ _ (cut s' rs').1 (cut s' rs').2 (.d .non)
  | rt w' st' =>
    intro v G' ad' H' s' rs' rv'
    have h : PostF ⟨P, w, K⟩ mg G ad H (match frz w' st' with | some (x, st') => .ok (.d x) (st'.take st.length) | none => .bad) Q E := h
    split at h
    · rename_i x st2 e
      obtain ⟨G2, s2, rs2, d2⟩ := frz_ok rs' rv' e
      have c := cut (s'.trans s2) rs2
      exact h _ _ _ _ c.1 c.2 (.d d2)
    · exact h.elim
  | exc c ρ' st' =>
    obtain ⟨C, m, q⟩ := h
    exact ⟨C, m, fun σ' G' ad' H' s' rs' _ => q _ _ _ (cut s' rs').1 (cut s' rs').2⟩
  | bk => exact h.elim
  | ct => exact h.elim
  | bad => exact h.elim
end
/-! ### calls of defs -/
section
variable {X : Cx} {Wx : WX} {x : Str} {p pos : Pos} {e : Expr} {es : List Expr} {FAs : AF} {k : Nat} {f : Addr} {fd : FuncData} {ps : List Str} {den : Den}
theorem fe_call (Fn : FnOk X.prog X.w X.K X.mg X.base (L2N.CX X.prog X.w) k f fd ps (spD (wd X) X.mg ps.length den)) (tk : L2N.Takes X Wx) (hr : Room k X.A) (hg : Gl X x) (hm : X.mg x = some (.ref f)) (hk : PySem.W.keepIn X.K (.ref f) = true) (hb : Binds X.K fd ps [])
    (hn : (e :: es).length = ps.length) (ha : FA X Wx (e :: es) FAs) (hdb : (x == ("__debug__" : Str)) = false := by decide) (he : starEach (e :: es) X.env = (false, eval e X.env) :: starEach es X.env := by rfl) (hpl : (backTo pos (starEach es X.env)).any (·.1) = false := by rfl) :
    FE X Wx (.Call (.Name x p) (e :: es) [] pos) (cA den FAs) := by
  obtain ⟨t, pa, ka, hl⟩ := ha
  refine ⟨_, pe_callS Fn hr hg hm hk hb (fun σ => L2N.passAt tk σ) pa hdb he hpl, fun σ H G ad ρ st Q rs rl h => ?_⟩
  refine ka σ H G ad ρ st _ rs rl (Post.bind h fun ws st1 vs G1 ad1 H1 e1 s1 rs1 rv q => ?_)
  refine ⟨by rw [WvAll.length rv]; exact (hl _ _ _ _ e1).trans hn, G1, ad1, st1, ws, rs1, rv, ?_⟩
  generalize den ws st1 = r at q
  cases r <;> exact q
end
end Fx

namespace Fx
open PySem PySem.Spec L2
open PyProof.Rows hiding St

/-! ### keys -/
mutual
def toKey : PyData → Option NestedKey
  | .none => some .none
  | .int i => some (.num i)
  | .str x => some (.text x)
  | .tuple xs => (toKeys xs).map .tup
  | _ => none
def toKeys : List PyData → Option (List NestedKey)
  | [] => some []
  | x :: xs => (toKey x).bind fun k => (toKeys xs).map fun ks => k :: ks
end
mutual
theorem toKey_data : ∀ {d : PyData} {k : NestedKey}, toKey d = some k → k.data = d
  | .none, _, e => by cases e; rfl
  | .bool _, _, e => by cases e
  | .int i, _, e => by cases e; rfl
  | .str x, _, e => by cases e; rfl
  | .list _, _, e => by cases e
  | .dict _, _, e => by cases e
  | .tuple xs, k, e => by
    unfold toKey at e
    cases h : toKeys xs with
    | none => rw [h] at e; cases e
    | some ks => rw [h] at e; cases e; show PyData.tuple (NestedKey.datas ks) = _; rw [toKeys_datas h]
theorem toKeys_datas : ∀ {ds : List PyData} {ks : List NestedKey}, toKeys ds = some ks → NestedKey.datas ks = ds
  | [], _, e => by cases e; rfl
  | x :: xs, ks, e => by
    unfold toKeys at e
    cases h : toKey x with
    | none => rw [h] at e; cases e
    | some k =>
      rw [h] at e
      simp only [Option.bind_some] at e
      cases h2 : toKeys xs with
      | none => rw [h2] at e; cases e
      | some ks' => rw [h2] at e; cases e; show NestedKey.data k :: NestedKey.datas ks' = _; rw [toKey_data h, toKeys_datas h2]
end
mutual
theorem toKey_of : ∀ k : NestedKey, toKey k.data = some k
  | .none => rfl
  | .num i => rfl
  | .text x => rfl
  | .tup ks => by show (toKeys (NestedKey.datas ks)).map NestedKey.tup = _; rw [toKeys_of ks]; rfl
theorem toKeys_of : ∀ ks : List NestedKey, toKeys (NestedKey.datas ks) = some ks
  | [] => rfl
  | k :: ks => by show (toKey k.data).bind (fun k => (toKeys (NestedKey.datas ks)).map fun ks => k :: ks) = _; rw [toKey_of k, toKeys_of ks]; rfl
end
/-! data as it lies in a heap is a key there -/
mutual
theorem nested_of {X : Cx} {pins : List (Addr × Obj)} {σ : L2.St} {H : Hp} {s : Shared} (I : L2.Inv X pins σ H s) : ∀ (k : NestedKey) (v : V) (u : Value), Dv (wd X) H v k.data → RelV v u → NestedIs s.heap k u
  | .none, v, u, h, r => by cases h; cases r; exact .none
  | .num i, v, u, h, r => by cases h; obtain ⟨t, rfl⟩ := r; exact .int i t
  | .text x, v, u, h, r => by cases h; obtain ⟨t, rfl⟩ := r; exact .text x t
  | .tup ks, v, u, h, r => by
    cases h with
    | tup hs ha =>
      cases r
      obtain ⟨its, rv, ⟨o, ho, hc, n, hd⟩, _⟩ := I.tuple hs
      exact .tup ho hc hd (by simpa using nested_all I ks _ _ ha rv)
theorem nested_all {X : Cx} {pins : List (Addr × Obj)} {σ : L2.St} {H : Hp} {s : Shared} (I : L2.Inv X pins σ H s) : ∀ (ks : List NestedKey) (vs : List V) (us : List Value), DvAll (wd X) H vs (NestedKey.datas ks) → Vals vs us → NestedAll s.heap ks us
  | [], vs, us, h, r => by cases h; cases r; exact .nil
  | k :: ks, vs, us, h, r => by
    cases h with
    | cons h1 h2 => cases r with
      | cons r1 r2 => exact .cons (nested_of I k _ _ h1 r1) (nested_all I ks _ _ h2 r2)
end

/-! ### dict objects -/
theorem dicP_stay {C : Wd} {a : Addr} {xs : Ents} {ep : Nat} : ∀ h1 h2 : Heap, dicP C a xs ep h1 → (∀ o, h1.get? a = some o → h2.get? a = some o) → dicP C a xs ep h2 := fun h1 h2 ⟨o, es, vs, e, r⟩ k => ⟨o, es, vs, k o e, r⟩
theorem dicO_ok {C : Wd} {H : Hp} {h : Heap} {a : Addr} {xs : Ents} {ep : Nat} (p : dicP C a xs ep h) : ObjOk C.P C.w H h a (dicO C a xs ep) := by
  obtain ⟨o, es, vs, e, r⟩ := p
  exact ⟨⟨o, es, vs, e, r⟩, ⟨o, e⟩, dicP_stay⟩
theorem EntsRel.len {xs : Ents} {vs : List (NestedKey × Addr × Value)} (r : EntsRel xs vs) : xs.length = vs.length := Paired.length r
theorem EntsRel.keys : ∀ {xs : Ents} {vs : List (NestedKey × Addr × Value)}, EntsRel xs vs → vs.map (·.1) = xs.map (·.1)
  | _, _, .nil => rfl
  | _, _, .cons h r => by simp [EntsRel.keys r, h.1]
theorem DvKv.keys {C : Wd} {G : Hp} : ∀ {xs : Ents} {kvs : List (NestedKey × PyData)}, DvKv C G xs kvs → kvs.map (·.1) = xs.map (·.1)
  | _, _, .nil => rfl
  | _, _, .cons _ _ _ r => by simp [DvKv.keys r]
theorem DvKv.len {C : Wd} {G : Hp} : ∀ {xs : Ents} {kvs : List (NestedKey × PyData)}, DvKv C G xs kvs → xs.length = kvs.length
  | _, _, .nil => rfl
  | _, _, .cons _ _ _ r => by simp [DvKv.len r]
/-- the library's dict with its keys -/
theorem dic_ofH {X : Cx} {pins : List (Addr × Obj)} {σ : L2.St} {H : Hp} {s : Shared} (I : L2.Inv X pins σ H s) {G : Hp} (sub : Le G H) {a : Addr} {xs : Ents} {ep : Nat} {kvs : List (NestedKey × PyData)} (h : H a = some (dicO (wd X) a xs ep)) (r : DvKv (wd X) G xs kvs) (nd : (kvs.map (·.1)).Nodup) :
    ∃ vs, EntsRel xs vs ∧ s.heap.DictOfH (nestedKind X.prog X.w) a vs ∧ (a == sysModules) = false := by
  obtain ⟨⟨o, es, vs, e, hx, hd, re, hes, hs⟩, _⟩ := I.hok a _ h
  refine ⟨vs, re, ⟨o, es, ep, e, hx, hd, hes, ?_, by rw [re.keys, ← r.keys]; exact nd⟩, hs⟩
  have go : ∀ {xs : Ents} {vs : List (NestedKey × Addr × Value)} {kvs : List (NestedKey × PyData)}, EntsRel xs vs → DvKv (wd X) G xs kvs → ∀ x ∈ vs, (nestedKind X.prog X.w).is s.heap x.1 x.2.1 := by
    intro xs vs kvs re
    induction re generalizing kvs with
    | nil => intro _ x hx; cases hx
    | cons h t ih =>
      intro r x hx
      cases r with
      | cons hk hz hv rt =>
        rcases List.mem_cons.mp hx with rfl | hx
        · obtain ⟨h1, h2, h3⟩ := h
          rw [← h1, ← h2]
          exact ⟨nested_of I _ _ _ (hk.le sub) rfl, hz⟩
        · exact ih rt x hx
  exact go re r
end Fx

namespace Fx
open PySem PySem.Spec L2
open PyProof.Rows hiding St

/-! ### dicts as lists of pairs -/
abbrev Kvs := List (NestedKey × PyData)
def kget (kvs : Kvs) (k : NestedKey) : Option PyData := match kvs with
  | [] => none
  | (a, v) :: r => if a = k then some v else kget r k
def khas (kvs : Kvs) (k : NestedKey) : Bool := (kget kvs k).isSome
def kput (kvs : Kvs) (k : NestedKey) (d : PyData) : Kvs := if khas kvs k = true then kvs.map (fun p => if p.1 = k then (k, d) else p) else kvs ++ [(k, d)]
abbrev kdata (kvs : Kvs) : PyData := .dict (kvs.map fun p => (p.1.data, p.2))
def unKv : List (PyData × PyData) → Option Kvs
  | [] => some []
  | (k, v) :: r => (toKey k).bind fun k => (unKv r).map fun r => (k, v) :: r
@[simp] theorem unKv_map : ∀ kvs : Kvs, unKv (kvs.map fun p => (p.1.data, p.2)) = some kvs
  | [] => rfl
  | (k, v) :: r => by show (toKey k.data).bind (fun k => (unKv (r.map fun p => (p.1.data, p.2))).map fun r => (k, v) :: r) = _; rw [toKey_of, unKv_map r]; rfl
theorem khas_mem : ∀ {kvs : Kvs} {k : NestedKey}, khas kvs k = true ↔ k ∈ kvs.map (·.1)
  | [], k => by simp [khas, kget]
  | (a, v) :: r, k => by
    unfold khas kget
    by_cases h : a = k
    · simp [h]
    · have := khas_mem (kvs := r) (k := k)
      unfold khas at this
      simp only [h, if_false, List.map_cons, List.mem_cons, this]
      constructor
      · exact .inr
      · rintro (q | q)
        · exact absurd q.symm h
        · exact q
theorem kput_nodup {kvs : Kvs} {k : NestedKey} {d : PyData} (h : (kvs.map (·.1)).Nodup) : ((kput kvs k d).map (·.1)).Nodup := by
  unfold kput
  split
  · have : (kvs.map (fun p => if p.1 = k then (k, d) else p)).map (·.1) = kvs.map (·.1) := by
      rw [List.map_map]
      apply List.map_congr_left
      rintro ⟨a, v⟩ _
      simp only [Function.comp]
      split
      · rename_i e; exact e.symm
      · rfl
    rw [this]; exact h
  · rename_i hn
    rw [List.map_append, List.nodup_append]
    refine ⟨h, by simp, fun a ha b hb => ?_⟩
    simp only [List.map_cons, List.map_nil, List.mem_singleton] at hb
    subst hb
    rintro rfl
    exact hn (khas_mem.mpr ha)

def isT : NestedKey → Bool
  | .tup _ => true
  | _ => false
/-- data as a key of a dict -/
def asKey (x : PyData) : Option NestedKey := (toKey x).bind fun k => if isT k = true ∧ k.depth ≤ 8 then some k else none
theorem asKey_ok {x : PyData} {k : NestedKey} (h : asKey x = some k) : k.data = x ∧ isT k = true ∧ k.depth ≤ 8 := by
  unfold asKey at h
  cases e : toKey x with
  | none => rw [e] at h; cases h
  | some k' =>
    rw [e] at h
    simp only [Option.bind_some] at h
    split at h
    · cases h; exact ⟨toKey_data e, by assumption⟩
    · cases h
theorem key_ref {C : Wd} {H : Hp} {v : V} {k : NestedKey} (h : Dv C H v k.data) (t : isT k = true) : ∃ b, v = .ref b := by
  cases k with
  | tup ks => cases h with | tup _ _ => exact ⟨_, rfl⟩
  | _ => cases t

/-! entries, values and data side by side -/
section
variable {C : Wd} {G : Hp}
def eget (xs : Ents) (k : NestedKey) : Option V := match xs with
  | [] => none
  | (a, _, v) :: r => if a = k then some v else eget r k
theorem eget_rel {k : NestedKey} : ∀ {xs : Ents} {vs : List (NestedKey × Addr × Value)}, EntsRel xs vs → (eget xs k = none ∧ atKey vs k = none) ∨ ∃ b u v, eget xs k = some v ∧ atKey vs k = some (b, u) ∧ RelV v u
  | _, _, .nil => .inl ⟨rfl, rfl⟩
  | _, _, .cons (a := (xk, xb, xv)) (b := (yk, yb, yu)) h t => by
    obtain ⟨h1, h2, h3⟩ := h
    simp only at h1 h2 h3
    subst h1 h2
    by_cases e : xk = k
    · subst e
      exact .inr ⟨xb, yu, xv, by simp [eget], by simp [atKey], h3⟩
    · rcases eget_rel (k := k) t with ⟨q1, q2⟩ | ⟨b', u', v', q1, q2, q3⟩
      · refine .inl ⟨by simp [eget, e, q1], ?_⟩
        unfold atKey at q2 ⊢
        rw [List.find?_cons_of_neg (by simp [e])]
        exact q2
      · refine .inr ⟨b', u', v', by simp [eget, e, q1], ?_, q3⟩
        unfold atKey at q2 ⊢
        rw [List.find?_cons_of_neg (by simp [e])]
        exact q2
theorem kget_rel {k : NestedKey} : ∀ {xs : Ents} {kvs : Kvs}, DvKv C G xs kvs → (eget xs k = none ∧ kget kvs k = none) ∨ ∃ v d, eget xs k = some v ∧ kget kvs k = some d ∧ Dv C G v d
  | _, _, .nil => .inl ⟨rfl, rfl⟩
  | _, _, .cons (k := k') (d := d) hk hz hv r => by
    by_cases e : k' = k
    · exact .inr ⟨_, d, by simp [eget, e], by simp [kget, e], hv⟩
    · rcases kget_rel (k := k) r with ⟨q1, q2⟩ | ⟨v', d', q1, q2, q3⟩
      · exact .inl ⟨by simp [eget, e, q1], by simp [kget, e, q2]⟩
      · exact .inr ⟨v', d', by simp [eget, e, q1], by simp [kget, e, q2], q3⟩
theorem has_rel {k : NestedKey} {xs : Ents} {vs : List (NestedKey × Addr × Value)} {kvs : Kvs} (re : EntsRel xs vs) (rd : DvKv C G xs kvs) : (atKey vs k).isSome = khas kvs k := by
  unfold khas
  rcases eget_rel (k := k) re with ⟨q1, q2⟩ | ⟨b, u, v, q1, q2, _⟩ <;> rcases kget_rel (k := k) rd with ⟨p1, p2⟩ | ⟨v', d, p1, p2, _⟩
  · rw [q2, p2]; rfl
  · rw [q1] at p1; cases p1
  · rw [q1] at p1; cases p1
  · rw [q2, p2]; rfl
def eput (xs : Ents) (kvs : Kvs) (k : NestedKey) (b : Addr) (v : V) : Ents := if khas kvs k = true then xs.map (fun x => if x.1 = k then (x.1, x.2.1, v) else x) else xs ++ [(k, b, v)]
theorem EntsRel.append : ∀ {xs : Ents} {vs : List (NestedKey × Addr × Value)} {ys : Ents} {us : List (NestedKey × Addr × Value)}, EntsRel xs vs → EntsRel ys us → EntsRel (xs ++ ys) (vs ++ us)
  | _, _, _, _, .nil, s => s
  | _, _, _, _, .cons h t, s => .cons h (EntsRel.append t s)
theorem EntsRel.put {k : NestedKey} {v : V} {u : Value} (r : RelV v u) : ∀ {xs : Ents} {vs : List (NestedKey × Addr × Value)}, EntsRel xs vs → EntsRel (xs.map (fun x => if x.1 = k then (x.1, x.2.1, v) else x)) (vs.map (putAt k u))
  | _, _, .nil => .nil
  | _, _, .cons (a := x) (b := y) h t => by
    refine .cons ?_ (EntsRel.put r t)
    obtain ⟨h1, h2, h3⟩ := h
    unfold putAt
    by_cases e : x.1 = k
    · have e' : y.1 = k := h1 ▸ e
      simp only [e, e', if_true]; exact ⟨trivial, h2, r⟩
    · have e' : ¬ y.1 = k := h1 ▸ e
      simp only [e, e', if_false]; exact ⟨h1, h2, h3⟩
theorem DvKv.append : ∀ {xs : Ents} {kvs : Kvs} {ys : Ents} {lvs : Kvs}, DvKv C G xs kvs → DvKv C G ys lvs → DvKv C G (xs ++ ys) (kvs ++ lvs)
  | _, _, _, _, .nil, s => s
  | _, _, _, _, .cons h z q t, s => .cons h z q (DvKv.append t s)
theorem DvKv.put {k : NestedKey} {v : V} {d : PyData} (r : Dv C G v d) : ∀ {xs : Ents} {kvs : Kvs}, DvKv C G xs kvs → DvKv C G (xs.map (fun x => if x.1 = k then (x.1, x.2.1, v) else x)) (kvs.map (fun p => if p.1 = k then (k, d) else p))
  | _, _, .nil => .nil
  | _, _, .cons (k := k') h z q t => by
    show DvKv C G ((if k' = k then _ else _) :: _) ((if k' = k then _ else _) :: _)
    by_cases e : k' = k
    · subst e; rw [if_pos rfl, if_pos rfl]; exact .cons h z r (DvKv.put r t)
    · rw [if_neg e, if_neg e]; exact .cons h z q (DvKv.put r t)
theorem put_ents {xs : Ents} {vs : List (NestedKey × Addr × Value)} {kvs : Kvs} {k : NestedKey} {b : Addr} {v : V} {u : Value} (re : EntsRel xs vs) (rd : DvKv C G xs kvs) (rv : RelV v u) : EntsRel (eput xs kvs k b v) (storedH vs k b u) := by
  unfold eput storedH
  have h2 := has_rel (k := k) re rd
  cases h1 : khas kvs k with
  | false => rw [h1] at h2; rw [h2]; exact re.append (.cons ⟨rfl, rfl, rv⟩ .nil)
  | true => rw [h1] at h2; rw [h2]; exact re.put rv
theorem put_kvs {xs : Ents} {kvs : Kvs} {k : NestedKey} {b : Addr} {v : V} {d : PyData} (rd : DvKv C G xs kvs) (hk : Dv C G (.ref b) k.data) (hz : k.depth ≤ 8) (dv : Dv C G v d) : DvKv C G (eput xs kvs k b v) (kput kvs k d) := by
  unfold eput kput
  cases h1 : khas kvs k with
  | false => exact rd.append (.cons hk hz dv .nil)
  | true => exact rd.put dv
end

/-! ### the dict operations by values -/
/-- at d a dict of kvs -/
def DicAt (C : Wd) (H : Hp) (d : Addr) (kvs : Kvs) : Prop := ∃ xs ep, H d = some (dicO C d xs ep) ∧ DvKv C H xs kvs ∧ (kvs.map (·.1)).Nodup
def KeyV (C : Wd) (H : Hp) (x : V) (k : NestedKey) : Prop := Dv C H x k.data ∧ isT k = true ∧ k.depth ≤ 8
section
variable {X : Cx} {pins : List (Addr × Obj)} {σ : L2.St} {H : Hp} {s : Shared}
theorem DicAt.get (I : L2.Inv X pins σ H s) {d : Addr} {kvs : Kvs} (h : DicAt (wd X) H d kvs) : ∃ xs vs, EntsRel xs vs ∧ DvKv (wd X) H xs kvs ∧ s.heap.DictOfH (nestedKind X.prog X.w) d vs ∧ (d == sysModules) = false := by
  obtain ⟨xs, ep, h1, h2, h3⟩ := h
  obtain ⟨vs, r, q1, q2⟩ := dic_ofH I Le.refl h1 h2 h3
  exact ⟨xs, vs, r, h2, q1, q2⟩
theorem KeyV.key (I : L2.Inv X pins σ H s) {x : V} {v : Value} {k : NestedKey} (h : KeyV (wd X) H x k) (r : RelV x v) : ∃ b, x = .ref b ∧ v = .ref b ∧ (nestedKind X.prog X.w).is s.heap k b := by
  obtain ⟨h1, h2, h3⟩ := h
  obtain ⟨b, rfl⟩ := key_ref h1 h2
  cases r
  exact ⟨b, rfl, rfl, nested_of I k _ _ h1 rfl, h3⟩
theorem hu_in1 (hu : Hu X) : (nestedKind X.prog X.w).room X.A.in1 := by
  show X.A.units + 1 + 8 < cLine
  have : X.A.units + 100 < cLine := hu
  omega
def rInDic (C : Wd) (neg : Bool) : R2 := fun x y H Q => ∃ d kvs k, y = .ref d ∧ DicAt C H d kvs ∧ KeyV C H x k ∧ Q (.bl (neg != khas kvs k)) H
theorem op_inDic (hu : Hu X) : OpR X (compareOp .In) (rInDic (wd X) false) := by
  intro pins s σ H x y v u Q I rx ry h
  obtain ⟨d, kvs, k, rfl, hd, hk, q⟩ := h
  cases ry
  obtain ⟨xs, vs, re, rd, hm, hs⟩ := DicAt.get I hd
  obtain ⟨b, rfl, rfl, hkey⟩ := KeyV.key I hk rx
  refine wpAny_in_heap (hu_in1 hu) hkey hs hm ?_
  rw [has_rel re rd]
  exact ⟨.bl _, H, I.tok _, rfl, by simpa using q⟩
theorem op_notInDic (hu : Hu X) : OpR X (compareOp .NotIn) (rInDic (wd X) true) := by
  intro pins s σ H x y v u Q I rx ry h
  obtain ⟨d, kvs, k, rfl, hd, hk, q⟩ := h
  cases ry
  obtain ⟨xs, vs, re, rd, hm, hs⟩ := DicAt.get I hd
  obtain ⟨b, rfl, rfl, hkey⟩ := KeyV.key I hk rx
  have hm' : s.heap.DictKeyed (nestedKind X.prog X.w) d (pairsH vs) := ⟨vs, hm, rfl⟩
  refine notIn_keyed (hu_in1 hu) hkey hs hm' ?_
  rw [valueAt_pairsH, Option.isSome_map, has_rel re rd]
  exact ⟨.bl _, H, I.tok _, rfl, by simpa using q⟩
/-- d[k] -/
def rIxDic (C : Wd) : R2 := fun x y H Q => ∃ d xs ep kvs k v, x = .ref d ∧ H d = some (dicO C d xs ep) ∧ DvKv C H xs kvs ∧ (kvs.map (·.1)).Nodup ∧ KeyV C H y k ∧ eget xs k = some v ∧ Q v H
theorem dic_get (I : L2.Inv X pins σ H s) {d : Addr} {xs : Ents} {ep : Nat} {kvs : Kvs} (h : H d = some (dicO (wd X) d xs ep)) (r : DvKv (wd X) H xs kvs) (nd : (kvs.map (·.1)).Nodup) : ∃ vs, EntsRel xs vs ∧ s.heap.DictOfH (nestedKind X.prog X.w) d vs ∧ (d == sysModules) = false := dic_ofH I Le.refl h r nd
theorem ix_dic (hu : Hu X) : IxR X (rIxDic (wd X)) := by
  intro value slice pins s σ H x y v u Q I rx ry h hs
  obtain ⟨d, xs, ep, kvs, k, z, rfl, hd, rd, nd, hk, hz, q⟩ := h
  cases rx
  obtain ⟨vs, re, hm, hsys⟩ := dic_get I hd rd nd
  obtain ⟨b, rfl, rfl, hkey⟩ := KeyV.key I hk ry
  rcases eget_rel (k := k) re with ⟨q1, q2⟩ | ⟨b', u', v', q1, q2, q3⟩
  · rw [hz] at q1; cases q1
  · rw [hz] at q1
    cases q1
    exact tail_any hm.typeIs slot_dict_getitem.lookup (wpAny_getItem_heap (hu_in1 hu) hkey hm q2 ⟨z, H, I.tok _, q3, q⟩) hs
/-- d[k] = v -/
def rSetDic (C : Wd) : V → V → V → Hp → (Hp → Prop) → Prop := fun o i v H Q => ∃ d xs ep kvs k b, o = .ref d ∧ i = .ref b ∧ H d = some (dicO C d xs ep) ∧ DvKv C H xs kvs ∧ (kvs.map (·.1)).Nodup ∧ KeyV C H i k ∧ kvs.length ≤ sizeLine ∧ ∀ ep', Q (upd H d (dicO C d (eput xs kvs k b v) ep'))
theorem set_dic (hu : Hu X) : PSet X (rSetDic (wd X)) := by
  intro pins s σ H o i v ov iv u Q I ro ri rv h
  obtain ⟨d, xs, ep, kvs, k, b, rfl, rfl, hd, rd, nd, hk, hz, q⟩ := h
  cases ro
  obtain ⟨vs, re, hm, hsys⟩ := dic_get I hd rd nd
  obtain ⟨b', e1, rfl, hkey⟩ := KeyV.key I hk ri
  cases e1
  refine wpAny_setItem_heap (hu_in1 hu) hkey hm (fun h' hm' hs' => ?_) (by rw [← re.len, rd.len]; exact hz)
  have hd0 : ∃ o, s.heap.get? d = some o := by obtain ⟨o, _, _, e, _⟩ := id hm; exact ⟨o, e⟩
  obtain ⟨ep', new⟩ : ∃ ep', dicP (wd X) d (eput xs kvs k b v) ep' h' := by
    obtain ⟨o, es, ep, e, hx, hdd, hes, _, _⟩ := hm'
    exact ⟨ep, o, es, _, e, hx, hdd, put_ents re rd rv, hes, hsys⟩
  refine ⟨_, I.write (t' := s.toks + (nestedKind X.prog X.w).draws k) (x := d) (e := d) (by rw [hd]; trivial) (.inl rfl) (fun b ob hb e => (hs'.2 b hb).trans e) ?_ (dicO_ok new), q ep'⟩
  obtain ⟨o, _, _, e, _⟩ := hm'
  exact ⟨o, e⟩
end
end Fx

namespace Fx
open PySem PySem.Spec L2
open PyProof.Rows hiding St

section
variable {C : Wd} {G : Hp} {ad : List Addr} {H : Hp} {st : Sto} {v : V} {w : W}
/-- a dict as it lies, by its pairs -/
theorem der_kvs (rs : RepS C G ad st H) (r : Wv C G ad v w) {m : List (PyData × PyData)} {kvs : Kvs} (e : der st w = some (.dict m)) (u : unKv m = some kvs) : ∃ a xs ep, v = .ref a ∧ H a = some (dicO C a xs ep) ∧ DvKv C G xs kvs ∧ (kvs.map (·.1)).Nodup := by
  obtain ⟨a, xs, ep, kvs', rfl, rfl, h1, h2, h3⟩ := der_dic rs r e
  rw [unKv_map] at u
  cases u
  exact ⟨a, xs, ep, rfl, h1, h2, h3⟩
theorem der_key (rs : RepS C G ad st H) (r : Wv C G ad v w) {x : PyData} {k : NestedKey} (e : der st w = some x) (u : asKey x = some k) : KeyV C H v k := by
  obtain ⟨rfl, t, z⟩ := asKey_ok u
  exact ⟨der_dv rs r e, t, z⟩
end

/-! ### subscripts -/
def fIx : PyData → PyData → Option PyData
  | .list xs, .int i => atI xs i
  | .tuple xs, .int i => atI xs i
  | .str z, .int i => if z.length ≤ sizeLine then (atI z.cps.toList i).map fun c => .str ⟨#[c]⟩ else none
  | .dict m, x => (unKv m).bind fun kvs => (asKey x).bind fun k => kget kvs k
  | _, _ => none
theorem atI_rel {C : Wd} {G : Hp} {xs : List V} {ds : List PyData} {i : Int} {d : PyData} (r : DvAll C G xs ds) (e : atI ds i = some d) : ∃ v, atI xs i = some v ∧ Dv C G v d := by
  unfold atI at e ⊢
  rw [r.length]
  cases h : ixN ds.length i with
  | none => rw [h] at e; cases e
  | some j => rw [h] at e; exact r.get e
section
variable {X : Cx} {Wx : WX} {a b : Expr} {Fa Fb : EF} {pos : Pos}
theorem o_ix : Op2 X Wx (g2 fIx) (fun x y H Q => rIxL X.K x y H Q ∨ (rIxT X.K x y H Q ∨ (rIxS x y H Q ∨ rIxDic (wd X) x y H Q))) := op2_of fun σ H G ad st v w u z x y d Q rs rv ru e1 e2 e h => by
  unfold fIx at e
  split at e
  · obtain ⟨p, vs, rfl, s1, r1⟩ := der_lst rs rv e1
    obtain rfl := der_int rs ru e2
    obtain ⟨v, e3, r3⟩ := atI_rel r1 e
    exact .inl ⟨p, vs, _, v, rfl, rfl, s1, e3, h.val rs r3⟩
  · obtain ⟨p, vs, rfl, s1, r1, _⟩ := der_tup rs rv e1
    obtain rfl := der_int rs ru e2
    obtain ⟨v, e3, r3⟩ := atI_rel r1 e
    exact .inr (.inl ⟨p, vs, _, v, rfl, rfl, s1, e3, h.val rs r3⟩)
  · split at e
    · rename_i z i hz
      obtain rfl := der_str rs rv e1
      obtain rfl := der_int rs ru e2
      cases e3 : atI z.cps.toList i with
      | none => rw [e3] at e; cases e
      | some c =>
        rw [e3] at e
        cases e
        exact .inr (.inr (.inl ⟨z, i, c, rfl, rfl, hz, e3, h.val rs (.str _)⟩))
    · cases e
  · rename_i m
    obtain ⟨kvs, e3, e⟩ := Option.bind_eq_some_iff.mp e
    obtain ⟨k, e4, e⟩ := Option.bind_eq_some_iff.mp e
    obtain ⟨p, xs, ep, rfl, h1, h2, h3⟩ := der_kvs rs rv e1 e3
    rcases kget_rel (k := k) h2 with ⟨q1, q2⟩ | ⟨v', d', q1, q2, q3⟩
    · rw [e] at q2; cases q2
    · rw [e] at q2
      cases q2
      exact .inr (.inr (.inr ⟨p, xs, ep, kvs, k, v', rfl, h1, h2.le rs.sub, h3, der_key rs ru e2 e4, q1, h.val rs q3⟩))
  · cases e
theorem fe_ix (hu : Hu X) (ha : FE X Wx a Fa) (hb : FE X Wx b Fb) (hs : PlainIx b) : FE X Wx (.Subscript a b pos) (c2 (g2 fIx) Fa Fb) := fe_2 o_ix ha hb fun _ _ p q => pe_ix (ix_list.or (ix_tup.or (ix_str.or (ix_dic hu)))) p q hs

/-! ### membership -/
def fIn' (neg : Bool) : PyData → PyData → Option PyData := fun x c => match c with
  | .dict m => (unKv m).bind fun kvs => (asKey x).bind fun k => some (.bool (neg != khas kvs k))
  | c => fIn neg x c
theorem o_in' {neg : Bool} : Op2 X Wx (g2 (fIn' neg)) (fun x y H Q => rInQ X.K neg x y H Q ∨ rInDic (wd X) neg x y H Q) := op2_of fun σ H G ad st v w u z x y d Q rs rv ru e1 e2 e h => by
  have split : (∃ m, y = .dict m) ∨ fIn' neg x y = fIn neg x y := by cases y <;> first | exact .inl ⟨_, rfl⟩ | exact .inr rfl
  rcases split with ⟨m, rfl⟩ | hy
  · have e : ((unKv m).bind fun kvs => (asKey x).bind fun k => some (.bool (neg != khas kvs k))) = some d := e
    cases e3 : unKv m with
    | none => rw [e3] at e; cases e
    | some kvs =>
      rw [e3] at e
      simp only [Option.bind_some] at e
      cases e4 : asKey x with
      | none => rw [e4] at e; cases e
      | some k =>
        rw [e4] at e
        cases e
        obtain ⟨p, xs, ep, rfl, h1, h2, h3⟩ := der_kvs rs ru e2 e3
        exact .inr ⟨p, kvs, k, rfl, ⟨xs, ep, h1, h2.le rs.sub, h3⟩, der_key rs rv e1 e4, h.val rs (.bl _)⟩
  · rw [hy] at e
    exact .inl (o_in (Wx := Wx) σ H G ad st v w u z Q rs rv ru (by unfold g2; rw [e1, e2]; simp only [Option.bind_some, e]; exact h))
theorem op_in1 (hu : Hu X) : OpR X (compareOp .In) (fun x y H Q => rInQ X.K false x y H Q ∨ rInDic (wd X) false x y H Q) := OpR.or (op_inQ hu) (op_inDic hu)
theorem op_in2 (hu : Hu X) : OpR X (compareOp .NotIn) (fun x y H Q => rInQ X.K true x y H Q ∨ rInDic (wd X) true x y H Q) := OpR.or (op_notInQ hu) (op_notInDic hu)
end

/-! ### slices -/
def cutD (xs : List PyData) (lo hi : Option Int) : List PyData := (xs.drop (HT.sIx xs.length 0 lo)).take (HT.sIx xs.length xs.length hi - HT.sIx xs.length 0 lo)
theorem cut_rel {C : Wd} {G : Hp} {xs : List V} {ds : List PyData} (r : DvAll C G xs ds) (lo hi : Option Int) : DvAll C G (cutV xs lo hi) (cutD ds lo hi) := by
  unfold cutV cutD
  rw [r.length]
  exact (r.drop _).take _
def fSl (lo hi : Option Int) : PyData → Option PyData
  | .list xs => some (.list (cutD xs lo hi))
  | .tuple xs => some (.tuple (cutD xs lo hi))
  | _ => none
abbrev OF := Lv → Sto → R (Option Int)
def pNone : OF := fun _ st => .ok none st
def pSome (a : EF) : OF := fun ρ st => (a ρ st).bind fun w st => match w with | .d (.int i) => .ok (some i) st | _ => .bad
def cSl (a : EF) (lo hi : OF) : EF := fun ρ st => (a ρ st).bind fun w st => (lo ρ st).bind fun l st => (hi ρ st).bind fun h st => g1 (fSl l h) w st
def FO (X : Cx) (Wx : WX) (e : Option Expr) (F : OF) : Prop := ∃ t : TO, PO X e t ∧ ∀ σ H G ad ρ st Q, RepS (wd X) G ad st H → RepL (wd X) G ad ρ σ → Post X Wx G ad H σ (fun _ _ (x y : Option Int) => x = y) (F ρ st) Q → t σ H Q
section
variable {X : Cx} {Wx : WX} {a b e : Expr} {Fa Fb : EF} {pos p2 : Pos} {lo hi : Option Expr} {Fl Fh : OF}
theorem fo_none : FO X Wx none pNone := ⟨_, po_none, fun σ H G ad ρ st Q rs rl h => h _ G ad H .refl rs rfl⟩
theorem fo_some (h : FE X Wx e Fa) : FO X Wx (some e) (pSome Fa) := by
  obtain ⟨t, p, k⟩ := h
  refine ⟨_, po_some p, fun σ H G ad ρ st Q rs rl h => ?_⟩
  refine k σ H G ad ρ st _ rs rl (Post.bind h fun w st1 v G1 ad1 H1 _ s1 rs1 rv q => ?_)
  split at q
  · cases rv with | d r => cases r; exact ⟨_, rfl, q _ G1 ad1 H1 .refl rs1 rfl⟩
  · exact q.elim
theorem o_sl {l l2 : Option Int} : Op1 X Wx (g1 (fSl l l2)) (fun x H Q => rSlL X.K x l l2 H Q ∨ rSlA X.K x l l2 H Q) := op1_of fun σ H G ad st v w x d Q rs rv e1 e h => by
  unfold fSl at e
  split at e
  · cases e
    obtain ⟨p, vs, rfl, s1, r1⟩ := der_lst rs rv e1
    exact .inl ⟨p, vs, rfl, s1, h.newLst rs (cut_rel r1 _ _)⟩
  · rename_i xs
    cases e
    obtain ⟨p, vs, rfl, s1, r1, d1⟩ := der_tup rs rv e1
    refine .inr ⟨p, vs, rfl, s1, fun hw => ?_, fun _ => h.newTup rs (cut_rel r1 _ _)⟩
    have e2 : cutD xs l l2 = xs := by
      unfold cutD
      rw [← r1.length, hw.1, hw.2, List.drop_zero, Nat.sub_zero, r1.length, List.take_length]
    rw [e2] at h
    exact h.val rs d1
  · cases e
theorem fe_sl (ha : FE X Wx a Fa) (hl : FO X Wx lo Fl) (hh : FO X Wx hi Fh) : FE X Wx (.Subscript a (.Slice lo hi none p2) pos) (cSl Fa Fl Fh) := by
  obtain ⟨ta, pa, ka⟩ := ha
  obtain ⟨tl, pl, kl⟩ := hl
  obtain ⟨th, ph, kh⟩ := hh
  refine ⟨_, pe_slice (sl_list.or sl_tupA) pa pl ph, fun σ H G ad ρ st Q rs rl h => ?_⟩
  refine ka σ H G ad ρ st _ rs rl (Post.bind h fun w st1 v G1 ad1 H1 _ s1 rs1 rv q => ?_)
  refine kl σ H1 G1 ad1 ρ st1 _ rs1 (rl.step s1) (Post.bind q fun l st2 l' G2 ad2 H2 _ s2 rs2 rl2 q2 => ?_)
  obtain rfl : l' = l := rl2
  refine kh σ H2 G2 ad2 ρ st2 _ rs2 (rl.step (s1.trans s2)) (Post.bind q2 fun l st3 l'' G3 ad3 H3 _ s3 rs3 rl3 q3 => ?_)
  obtain rfl : l'' = l := rl3
  exact o_sl σ H3 G3 ad3 st3 v w Q rs3 (rv.step (s2.trans s3)) q3
end

/-! ### methods of lists and dicts -/
section
variable {X : Cx} {o e : Expr} {es : List Expr} {to : TE} {t : TA} {name : Str} {apos cpos : Pos} {id : String} {r : V → List V → Hp → VK → Prop}
def tBMD (C : Wd) (r : V → List V → Hp → VK → Prop) (to : TE) (t : TA) : TE := fun σ H Q => to σ H fun x H1 => (∃ d kvs, x = .ref d ∧ DicAt C H1 d kvs) ∧ t σ H1 fun xs H2 => r x xs H2 Q
theorem dic_ty {pins : List (Addr × Obj)} {σ : L2.St} {H : Hp} {s : Shared} (I : L2.Inv X pins σ H s) {d : Addr} {kvs : Kvs} (h : DicAt (wd X) H d kvs) : s.TypeIs (.ref d) "dict" ∧ ∀ a, Value.ref d = .ref a → ∃ ob, s.heap.get? a = some ob ∧ ob.dict = none := by
  obtain ⟨xs, vs, _, _, hm, _⟩ := DicAt.get I h
  obtain ⟨o, es, ep, e, hx, _⟩ := hm
  refine ⟨⟨o, e, hx.1⟩, fun a e2 => ?_⟩
  cases e2
  exact ⟨o, e, hx.2.1⟩
theorem pe_bmD (pa : PlainAttrs "dict") (slot : Slot "dict" name id) (hty : typeOf (.builtin id) = pure (.type "method_descriptor")) (hm : MtR X id r) (ho : PE X o to) (ha : PA X (e :: es) t)
    (hbase : attributeBase o name X.env (eval o X.env) = eval o X.env := by rfl)
    (hfew : ((backTo cpos (starEach (e :: es) X.env)).all (fun x => !x.1) && (backToKw cpos (keywordEach [] X.env)).all (fun x => x.1.isSome) && decide ((e :: es).length + ([] : List Keyword).length + (if ([] : List Keyword).isEmpty then 0 else 1) < 30)) = true := by rfl)
    (hline : (apos.endLine == cpos.line) = true := by rfl) (hs : starEach (e :: es) X.env = (false, eval e X.env) :: starEach es X.env := by rfl) (hplain : (backTo cpos (starEach es X.env)).any (·.1) = false := by rfl) :
    PE X (.Call (.Attribute o name apos) (e :: es) [] cpos) (tBMD (wd X) r to t) := by
  refine ⟨fun pins s σ H Q I h => wpAny_Call_method_late hbase hfew hline rfl (thn (ho.run pins s σ H _ I h) fun v s1 q => ?_)⟩
  obtain ⟨x, H1, I1, r1, ⟨d, kvs, rfl, hd⟩, q1⟩ := q
  cases r1
  obtain ⟨h1, h2⟩ := dic_ty I1 hd
  have hA := ha.run cpos pins s1 σ H1 _ I1 q1
  refine ⟨"dict", id, pa, slot, hty, h1, h2, ?_⟩
  rw [hs] at hA ⊢
  refine Calls.callWith_builtin (by show (false || (backTo cpos (starEach es X.env)).any (·.1)) = false; rw [hplain]; rfl) (Calls.evalArgs_plain (thn hA fun us s2 q2 => ?_))
  obtain ⟨vs, H2, I2, r2, q2⟩ := q2
  exact hm pins s2 σ H2 (.ref d) vs (.ref d) us Q I2 rfl r2 q2
theorem pe_bmD0 (pa : PlainAttrs "dict") (slot : Slot "dict" name id) (hty : typeOf (.builtin id) = pure (.type "method_descriptor")) (hm : MtR X id r) (ho : PE X o to)
    (hbase : attributeBase o name X.env (eval o X.env) = eval o X.env := by rfl) (hline : (apos.endLine == cpos.line) = true := by rfl) : PE X (.Call (.Attribute o name apos) [] [] cpos) (fun σ H Q => to σ H fun x H1 => (∃ d kvs, x = .ref d ∧ DicAt (wd X) H1 d kvs) ∧ r x [] H1 Q) := by
  refine ⟨fun pins s σ H Q I h => wpAny_Call_method0_late hbase hline (thn (ho.run pins s σ H _ I h) fun v s1 q => ?_)⟩
  obtain ⟨x, H1, I1, r1, ⟨d, kvs, rfl, hd⟩, q1⟩ := q
  cases r1
  obtain ⟨h1, h2⟩ := dic_ty I1 hd
  exact ⟨"dict", id, pa, slot, hty, h1, h2, Calls.callWith_builtin rfl (PySem.evalArgs_none (hm pins s1 σ H1 (.ref d) [] (.ref d) [] Q I1 rfl .nil q1))⟩
end
/-- the list or dict behind a handle that may be changed -/
def liveL (st : Sto) : W → Option (Nat × List PyData)
  | .h n => match st[n]? with | some ⟨true, .lst ds⟩ => some (n, ds) | _ => none
  | _ => none
def liveD (st : Sto) : W → Option (Nat × Kvs)
  | .h n => match st[n]? with | some ⟨true, .dic kvs⟩ => some (n, kvs) | _ => none
  | _ => none
theorem liveL_eq {st : Sto} {w : W} {n : Nat} {ds : List PyData} (h : liveL st w = some (n, ds)) : w = .h n ∧ st[n]? = some ⟨true, .lst ds⟩ := by
  unfold liveL at h
  split at h
  · split at h
    · cases h; exact ⟨rfl, by assumption⟩
    · cases h
  · cases h
theorem liveD_eq {st : Sto} {w : W} {n : Nat} {ds : Kvs} (h : liveD st w = some (n, ds)) : w = .h n ∧ st[n]? = some ⟨true, .dic ds⟩ := by
  unfold liveD at h
  split at h
  · split at h
    · cases h; exact ⟨rfl, by assumption⟩
    · cases h
  · cases h
/-- xs.append(e): e frozen -/
def isLst (st : Sto) (n : Nat) : Bool := match st[n]? with | some ⟨_, .lst _⟩ => true | _ => false
def gApp (w z : W) (st : Sto) : R W := match frz z st with
  | some (x, st) => match liveL st w with
    | some (n, ds) => if ds.length < sizeLine then .ok (.d .none) (st.set n ⟨true, .lst (ds ++ [x])⟩) else .bad
    | none => .bad
  | none => .bad
def cApp (a b : EF) : EF := fun ρ st => (a ρ st).bind fun w st => match w with | .h n => if isLst st n = true then (b ρ st).bind fun z st => gApp (.h n) z st else .bad | _ => .bad
section
variable {X : Cx} {Wx : WX} {o e : Expr} {Fo Fe : EF} {apos cpos : Pos}
theorem post_frz {G : Hp} {ad : List Addr} {H : Hp} {st : Sto} {v : V} {z : W} {Q : VK} {f : PyData → Sto → R W} {σ : L2.St} (rs : RepS (wd X) G ad st H) (rv : Wv (wd X) G ad v z)
    (h : Post X Wx G ad H σ (relW X) (match frz z st with | some (x, st) => f x st | none => .bad) Q) : ∃ x st' G', frz z st = some (x, st') ∧ Step G ad H G' ad H ∧ RepS (wd X) G' ad st' H ∧ Dv (wd X) G' v x ∧ Post X Wx G' ad H σ (relW X) (f x st') Q := by
  cases e : frz z st with
  | none => rw [e] at h; exact h.elim
  | some p =>
    obtain ⟨x, st'⟩ := p
    rw [e] at h
    obtain ⟨G', s', rs', d'⟩ := frz_ok rs rv e
    exact ⟨x, st', G', rfl, s', rs', d', h.mono s'⟩
theorem fe_app (ho : FE X Wx o Fo) (he : FE X Wx e Fe)
    (hbase : attributeBase o "append" X.env (eval o X.env) = eval o X.env := by rfl)
    (hfew : ((backTo cpos (starEach [e] X.env)).all (fun x => !x.1) && (backToKw cpos (keywordEach [] X.env)).all (fun x => x.1.isSome) && decide ([e].length + ([] : List Keyword).length + (if ([] : List Keyword).isEmpty then 0 else 1) < 30)) = true := by rfl)
    (hline : (apos.endLine == cpos.line) = true := by rfl) (hs : starEach [e] X.env = (false, eval e X.env) :: starEach [] X.env := by rfl) : FE X Wx (.Call (.Attribute o "append" apos) [e] [] cpos) (cApp Fo Fe) := by
  obtain ⟨ta, pa, ka⟩ := ho
  obtain ⟨tb, pb, kb⟩ := he
  refine ⟨_, pe_bm PySem.F.plainAttrs_list PySem.F.slot_list_append PySem.F.type_list_append mt_append pa (pa_cons pb pa_nil hs) hbase hfew hline hs, fun σ H G ad ρ st Q rs rl h => ?_⟩
  refine ka σ H G ad ρ st _ rs rl (Post.bind h fun w st1 v G1 ad1 H1 _ s1 rs1 rv q => ?_)
  cases rv with
  | @h n p hp =>
    simp only at q
    cases hi : isLst st1 n with
    | false => rw [hi] at q; exact q.elim
    | true =>
      rw [hi, if_pos rfl] at q
      have hl : ∃ ds, der st1 (.h n) = some (.list ds) := by
        unfold isLst at hi
        rw [der_h]
        cases hm : st1[n]? with
        | none => rw [hm] at hi; cases hi
        | some m =>
          obtain ⟨lv, c⟩ := m
          cases c with
          | lst ds => exact ⟨ds, rfl⟩
          | dic kvs => rw [hm] at hi; cases hi
      obtain ⟨ds, hl⟩ := hl
      obtain ⟨p', vs, e1, q1, _⟩ := der_lst rs1 (.h hp) hl
      cases e1
      refine ⟨.inl ⟨rfl, vs, q1⟩, ?_⟩
      refine kb σ H1 G1 ad1 ρ st1 _ rs1 (rl.step s1) (Post.bind q fun z st2 u G2 ad2 H2 _ s2 rs2 ru q2 => ?_)
      obtain ⟨x, st3, G3, e3, s3, rs3, d3, q3⟩ := post_frz rs2 ru q2
      cases e4 : liveL st3 (.h n) with
      | none => rw [e4] at q3; exact q3.elim
      | some m =>
        obtain ⟨n', ds'⟩ := m
        rw [e4] at q3
        simp only at q3
        split at q3
        · rename_i hz
          obtain ⟨e5, e6⟩ := liveL_eq e4
          cases e5
          have hp3 : ad2[n]? = some p := pre_get s2.adp hp
          obtain ⟨g0, vs3, h3, r3⟩ := rs3.obj n _ p e6 hp3
          refine ⟨p, vs3, u, rfl, rfl, h3, by rw [r3.length]; exact hz, ?_⟩
          refine q3 _ G3 ad2 _ (Step.write hp3) (rs3.write (c := .lst (ds' ++ [x])) hp3 ⟨g0, vs3 ++ [u], upd_same, r3.append (DvAll.one d3)⟩) (.d .non)
        · exact q3.elim
  | d _ => exact q.elim
  | hs _ _ => exact q.elim
  | fn => exact q.elim
end
end Fx

namespace Fx
open PySem PySem.Spec L2
open PyProof.Rows hiding St

/-! ### o[i] = e -/
def put1 (wo wi : W) (x : PyData) (st : Sto) : Option Sto := match liveL st wo, liveD st wo, wi with
  | some (n, ds), _, .d (.int k) => (ixN ds.length k).map fun j => st.set n ⟨true, .lst (ds.set j x)⟩
  | none, some (n, kvs), .d y => (asKey y).bind fun k => if kvs.length ≤ sizeLine then some (st.set n ⟨true, .dic (kput kvs k x)⟩) else none
  | _, _, _ => none
def gPut (wo wi w : W) (st : Sto) : Option Sto := (frz w st).bind fun p => put1 wo wi p.1 p.2
def sPut (o i a : EF) : SF := fun ρ st => (a ρ st).s ρ fun w st => (o ρ st).s ρ fun wo st => (i ρ st).s ρ fun wi st => match gPut wo wi w st with | some st => .nx ρ st | none => .bad
theorem put1_inv {wo wi : W} {x : PyData} {st st' : Sto} (h : put1 wo wi x st = some st') : (∃ n ds k j, liveL st wo = some (n, ds) ∧ wi = .d (.int k) ∧ ixN ds.length k = some j ∧ st' = st.set n ⟨true, .lst (ds.set j x)⟩) ∨
    (∃ n kvs y k, liveD st wo = some (n, kvs) ∧ wi = .d y ∧ asKey y = some k ∧ kvs.length ≤ sizeLine ∧ st' = st.set n ⟨true, .dic (kput kvs k x)⟩) := by
  unfold put1 at h
  split at h
  · rename_i n ds k hl
    obtain ⟨j, hj, rfl⟩ := Option.map_eq_some_iff.mp h
    exact .inl ⟨n, ds, k, j, hl, rfl, hj, rfl⟩
  · rename_i n kvs y hl0 hl
    obtain ⟨k, hk, h⟩ := Option.bind_eq_some_iff.mp h
    split at h
    · cases h; exact .inr ⟨n, kvs, y, k, hl, rfl, hk, by assumption, rfl⟩
    · cases h
  · cases h
section
variable {X : Cx} {Wx : WX} {o i e : Expr} {Fo Fi Fe : EF} {p pos : Pos}
theorem PSet.or {t t' : TSet} (h : PSet X t) (h' : PSet X t') : PSet X (fun o i v H Q => t o i v H Q ∨ t' o i v H Q) := by
  intro pins s σ H o i v ov iv u Q I ro ri rv q
  rcases q with q | q
  · exact h pins s σ H o i v ov iv u Q I ro ri rv q
  · exact h' pins s σ H o i v ov iv u Q I ro ri rv q
theorem liveL_addr {C : Wd} {G : Hp} {ad : List Addr} {H : Hp} {st : Sto} {v : V} {w : W} {n : Nat} {ds : List PyData} (rs : RepS C G ad st H) (rv : Wv C G ad v w) (h : liveL st w = some (n, ds)) : ∃ p vs, ad[n]? = some p ∧ v = .ref p ∧ G p = none ∧ H p = some (.lst vs) ∧ DvAll C G vs ds := by
  obtain ⟨rfl, hm⟩ := liveL_eq h
  cases rv with
  | h hp =>
    obtain ⟨g, vs, h1, h2⟩ := rs.obj n _ _ hm hp
    exact ⟨_, vs, hp, rfl, g, h1, h2⟩
theorem liveD_addr {C : Wd} {G : Hp} {ad : List Addr} {H : Hp} {st : Sto} {v : V} {w : W} {n : Nat} {kvs : Kvs} (rs : RepS C G ad st H) (rv : Wv C G ad v w) (h : liveD st w = some (n, kvs)) : ∃ p xs ep, ad[n]? = some p ∧ v = .ref p ∧ G p = none ∧ H p = some (dicO C p xs ep) ∧ DvKv C G xs kvs ∧ (kvs.map (·.1)).Nodup := by
  obtain ⟨rfl, hm⟩ := liveD_eq h
  cases rv with
  | h hp =>
    obtain ⟨g, xs, ep, h1, h2, h3⟩ := rs.obj n _ _ hm hp
    exact ⟨_, xs, ep, hp, rfl, g, h1, h2, h3⟩
theorem fs_put (hu : Hu X) (ho : FE X Wx o Fo) (hi : FE X Wx i Fi) (he : FE X Wx e Fe)
    (ha : ∀ v, assign (.Subscript o i p) X.env v = (do
      let ov ← holding [v] (eval o X.env)
      let iv ← holding [v, ov] (eval i X.env)
      standAt p
      holding [v, ov, iv] (setItem ov iv v)
      release [v, ov, iv] []) := by intro _; rfl) (hs : swapsWithSole [.Subscript o i p] e pos.line X.env = pure false := by rfl) (hw : swappedStores [.Subscript o i p] e X.env = pure none := by rfl)
    (h1 : (assignEach [.Subscript o i p] X.env).map (·.2) = [assign (.Subscript o i p) X.env] := by rfl) : FS X Wx (.Assign [.Subscript o i p] e pos) (sPut Fo Fi Fe) := by
  obtain ⟨te, pe, ke⟩ := he
  obtain ⟨to, po, ko⟩ := ho
  obtain ⟨ti, pi, ki⟩ := hi
  refine ⟨_, ps_asg pe (pg_sub po pi (PSet.or set_list (set_dic hu)) ha) hs hw h1, fun σ H G ad ρ st D rs rl h => ?_⟩
  refine ke σ H G ad ρ st _ rs rl (PostS.ex rl h fun w st1 v G1 ad1 H1 s1 rs1 rv q => ?_)
  have rl1 := rl.step s1
  refine ko σ H1 G1 ad1 ρ st1 _ rs1 rl1 (PostS.ex rl1 q fun wo st2 vo G2 ad2 H2 s2 rs2 ro q2 => ?_)
  have rl2 := rl1.step s2
  refine ki σ H2 G2 ad2 ρ st2 _ rs2 rl2 (PostS.ex rl2 q2 fun wi st3 vi G3 ad3 H3 s3 rs3 ri q3 => ?_)
  have rl3 := rl2.step s3
  have ro3 := ro.step s3
  have rv3 := rv.step (s2.trans s3)
  cases eg : gPut wo wi w st3 with
  | none => rw [eg] at q3; exact q3.elim
  | some st' =>
    rw [eg] at q3
    unfold gPut at eg
    obtain ⟨⟨x, st4⟩, e1, eg⟩ := Option.bind_eq_some_iff.mp eg
    obtain ⟨G4, s4, rs4, d4⟩ := frz_ok rs3 rv3 e1
    have ro4 := ro3.step s4
    have ri4 := ri.step s4
    have rl4 := rl3.step s4
    have q4 := PostS.mono s4 q3
    rcases put1_inv eg with ⟨n, ds, k, j, hl, rfl, hj, rfl⟩ | ⟨n, kvs, y, k, hl2, rfl, hk, hz, rfl⟩
    · obtain ⟨a, vs, hp, rfl, g0, hH, hD⟩ := liveL_addr rs4 ro4 hl
      cases ri4 with
      | d ri4 =>
        cases ri4
        exact .inl ⟨a, vs, k, j, rfl, rfl, hH, by rw [hD.length]; exact hj, q4 σ G4 ad3 _ (Step.write hp) (rs4.write (c := .lst (ds.set j x)) hp ⟨g0, vs.set j v, upd_same, hD.set d4 j⟩) rl4⟩
    · obtain ⟨a, xs, ep, hp, rfl, g0, hH, hD, hN⟩ := liveD_addr rs4 ro4 hl2
      obtain ⟨rfl, ht, hd8⟩ := asKey_ok hk
      cases ri4 with
      | d ri4 =>
        obtain ⟨b, rfl⟩ := key_ref ri4 ht
        exact .inr ⟨a, xs, ep, kvs, k, b, rfl, rfl, hH, hD.le rs4.sub, hN, ⟨ri4.le rs4.sub, ht, hd8⟩, hz, fun ep' => q4 σ G4 ad3 _ (Step.write hp) (rs4.write (c := .dic (kput kvs k x)) hp ⟨g0, eput xs kvs k b v, ep', upd_same, put_kvs hD ri4 hd8 d4, kput_nodup hN⟩) rl4⟩
end

/-! ### dicts: displays, get -/
def cDicH : EF := fun _ st => .ok (.h st.length) (st ++ [⟨true, .dic []⟩])
section
variable {X : Cx} {Wx : WX} {a b : Expr} {Fa Fb : EF} {pos p2 : Pos}
theorem dic_new {C : Wd} (h : Heap) (hb : (h.objs.size == sysModules) = false) : dicP C h.objs.size [] 0 (h.push { cls := .type "dict", data := .dict #[] }) :=
  ⟨_, #[], [], Heap.get?_push_size _ rfl, ⟨rfl, rfl, rfl⟩, rfl, .nil, rfl, hb⟩
def tDNewX (C : Wd) : TE := fun _ H Q => ∀ p, H p = none → Q (.ref p) (upd H p (dicO C p [] 0))
theorem pe_dnewX : PE X (.Dict [] [] pos) (tDNewX (wd X)) := ⟨fun pins s σ H Q I h =>
  wpAny_Dict_empty ⟨.ref s.heap.objs.size, _, I.laid (a := s.heap.objs.size) (o := dicO (wd X) s.heap.objs.size [] 0) (t' := s.toks) (fun _ _ q => Heap.get?_push_of_some _ q) (Nat.le_refl _) (dicO_ok (dic_new (C := wd X) s.heap (by have := I.big; exact beq_eq_false_iff_ne.mpr (Nat.ne_of_gt this)))), rfl, h _ (I.hok.fresh (Nat.le_refl _))⟩⟩
theorem fe_dicH : FE X Wx (.Dict [] [] pos) cDicH := ⟨_, pe_dnewX, fun σ H G ad ρ st Q rs rl h p hp =>
  h _ G _ _ (Step.newH hp) (rs.newH (c := .dic []) hp ⟨rs.sub.none hp, [], 0, upd_same, .nil, List.nodup_nil⟩) (.h (by rw [rs.len]; simp))⟩
/-- {} by value -/
theorem fe_dic : FE X Wx (.Dict [] [] pos) (cD (.dict [])) := ⟨_, pe_dnewX, fun σ H G ad ρ st Q rs rl h p hp =>
  h _ _ ad _ (Step.newG rs hp) (rs.newG hp) (.d (.dic (kvs := []) upd_same .nil List.nodup_nil))⟩
end
/-- d.get(k), d.get(k, x) -/
def rGetDic (C : Wd) : V → List V → Hp → VK → Prop := fun o vs H Q => ∃ d xs ep kvs k, o = .ref d ∧ H d = some (dicO C d xs ep) ∧ DvKv C H xs kvs ∧ (kvs.map (·.1)).Nodup ∧
  ((∃ y, vs = [y] ∧ KeyV C H y k ∧ Q ((eget xs k).getD .non) H) ∨ (∃ y z, vs = [y, z] ∧ KeyV C H y k ∧ Q ((eget xs k).getD z) H))
section
variable {X : Cx} {Wx : WX}
theorem mt_getDic (hu : Hu X) : MtR X "dict.get" (rGetDic (wd X)) := by
  intro pins s σ H x xs v us Q I rx rxs h
  obtain ⟨d, es, ep, kvs, k, rfl, hd, rd, nd, h⟩ := h
  cases rx
  obtain ⟨vs, re, hm, hsys⟩ := dic_get I hd rd nd
  have hm' : s.heap.DictKeyed (nestedKind X.prog X.w) d (pairsH vs) := ⟨vs, hm, rfl⟩
  rcases h with ⟨y, rfl, hk, q⟩ | ⟨y, z, rfl, hk, q⟩
  · cases rxs with
    | cons ry rt =>
      cases rt
      obtain ⟨b, rfl, rfl, hkey⟩ := KeyV.key I hk ry
      refine get_keyed (hu_in1 hu) hkey hsys hm' ?_
      rw [valueAt_pairsH]
      rcases eget_rel (k := k) re with ⟨q1, q2⟩ | ⟨b', u', v', q1, q2, q3⟩
      · rw [q2]; rw [q1] at q; exact ⟨.non, H, I.tok _, rfl, q⟩
      · rw [q2]; rw [q1] at q; exact ⟨v', H, I.tok _, q3, q⟩
  · cases rxs with
    | cons ry rt => cases rt with
      | cons rz rt =>
        cases rt
        obtain ⟨b, rfl, rfl, hkey⟩ := KeyV.key I hk ry
        refine getOr_keyed (hu_in1 hu) hkey hsys hm' ?_
        rw [valueAt_pairsH]
        rcases eget_rel (k := k) re with ⟨q1, q2⟩ | ⟨b', u', v', q1, q2, q3⟩
        · rw [q2]; rw [q1] at q; exact ⟨z, H, I.tok _, rz, q⟩
        · rw [q2]; rw [q1] at q; exact ⟨v', H, I.tok _, q3, q⟩
end
def isDic (st : Sto) (w : W) : Bool := match der st w with | some (.dict _) => true | _ => false
def gGet (w : W) (ws : List W) (st : Sto) : R W := match der st w, ws with
  | some (.dict m), [y] => okD st ((unKv m).bind fun kvs => (der st y).bind fun y => (asKey y).map fun k => (kget kvs k).getD .none)
  | some (.dict m), [y, .d z] => okD st ((unKv m).bind fun kvs => (der st y).bind fun y => (asKey y).map fun k => (kget kvs k).getD z)
  | _, _ => .bad
def cGet (a : EF) (as : AF) : EF := fun ρ st => (a ρ st).bind fun w st => if isDic st w = true then (as ρ st).bind fun ws st => gGet w ws st else .bad
section
variable {X : Cx} {Wx : WX} {o e : Expr} {es : List Expr} {Fo : EF} {FAs : AF} {apos cpos : Pos}
theorem isDic_eq {st : Sto} {w : W} (h : isDic st w = true) : ∃ m, der st w = some (.dict m) := by
  unfold isDic at h
  split at h
  · exact ⟨_, by assumption⟩
  · cases h
theorem unKv_total {C : Wd} {G : Hp} {ad : List Addr} {H : Hp} {st : Sto} {v : V} {w : W} (rs : RepS C G ad st H) (r : Wv C G ad v w) {m : List (PyData × PyData)} (e : der st w = some (.dict m)) : ∃ kvs, unKv m = some kvs := by
  obtain ⟨a, xs, ep, kvs', rfl, rfl, _⟩ := der_dic rs r e
  exact ⟨_, unKv_map _⟩
theorem dget_val {C : Wd} {G : Hp} {xs : Ents} {kvs : Kvs} {k : NestedKey} {z : V} {d : PyData} (rd : DvKv C G xs kvs) (rz : Dv C G z d) : Dv C G ((eget xs k).getD z) ((kget kvs k).getD d) := by
  rcases kget_rel (k := k) rd with ⟨q1, q2⟩ | ⟨v', d', q1, q2, q3⟩
  · rw [q1, q2]; exact rz
  · rw [q1, q2]; exact q3
theorem gGet_inv {G : Hp} {ad : List Addr} {H : Hp} {σ : L2.St} {w : W} {ws : List W} {st : Sto} {Q : VK} (h : Post X Wx G ad H σ (relW X) (gGet w ws st) Q) :
    (∃ m y kvs y' k, der st w = some (.dict m) ∧ ws = [y] ∧ unKv m = some kvs ∧ der st y = some y' ∧ asKey y' = some k ∧ Post X Wx G ad H σ (relW X) (.ok (.d ((kget kvs k).getD .none)) st) Q) ∨
    (∃ m y z kvs y' k, der st w = some (.dict m) ∧ ws = [y, .d z] ∧ unKv m = some kvs ∧ der st y = some y' ∧ asKey y' = some k ∧ Post X Wx G ad H σ (relW X) (.ok (.d ((kget kvs k).getD z)) st) Q) := by
  unfold gGet at h
  split at h
  · rename_i m y e1
    obtain ⟨x, ex, q3⟩ := okD_inv h
    obtain ⟨kvs', hk', ex⟩ := Option.bind_eq_some_iff.mp ex
    obtain ⟨x', e2, ex⟩ := Option.bind_eq_some_iff.mp ex
    obtain ⟨k, e3, rfl⟩ := Option.map_eq_some_iff.mp ex
    exact .inl ⟨m, y, kvs', x', k, e1, rfl, hk', e2, e3, q3⟩
  · rename_i m y z e1
    obtain ⟨x, ex, q3⟩ := okD_inv h
    obtain ⟨kvs', hk', ex⟩ := Option.bind_eq_some_iff.mp ex
    obtain ⟨x', e2, ex⟩ := Option.bind_eq_some_iff.mp ex
    obtain ⟨k, e3, rfl⟩ := Option.map_eq_some_iff.mp ex
    exact .inr ⟨m, y, z, kvs', x', k, e1, rfl, hk', e2, e3, q3⟩
  · exact h.elim
theorem fe_get (hu : Hu X) (ho : FE X Wx o Fo) (ha : FA X Wx (e :: es) FAs)
    (hbase : attributeBase o "get" X.env (eval o X.env) = eval o X.env := by rfl)
    (hfew : ((backTo cpos (starEach (e :: es) X.env)).all (fun x => !x.1) && (backToKw cpos (keywordEach [] X.env)).all (fun x => x.1.isSome) && decide ((e :: es).length + ([] : List Keyword).length + (if ([] : List Keyword).isEmpty then 0 else 1) < 30)) = true := by rfl)
    (hline : (apos.endLine == cpos.line) = true := by rfl) (hs : starEach (e :: es) X.env = (false, eval e X.env) :: starEach es X.env := by rfl) (hplain : (backTo cpos (starEach es X.env)).any (·.1) = false := by rfl) : FE X Wx (.Call (.Attribute o "get" apos) (e :: es) [] cpos) (cGet Fo FAs) := by
  obtain ⟨ta, pa, ka⟩ := ho
  obtain ⟨tb, pb, kb, _⟩ := ha
  refine ⟨_, pe_bmD PySem.F.plainAttrs_dict PySem.F.slot_dict_get PySem.F.type_dict_get (mt_getDic hu) pa pb hbase hfew hline hs hplain, fun σ H G ad ρ st Q rs rl h => ?_⟩
  refine ka σ H G ad ρ st _ rs rl (Post.bind h fun w st1 v G1 ad1 H1 _ s1 rs1 rv q => ?_)
  split at q
  · rename_i hd
    obtain ⟨m, hm⟩ := isDic_eq hd
    obtain ⟨kvs, hk⟩ := unKv_total rs1 rv hm
    obtain ⟨a, xs, ep, rfl, h1, h2, h3⟩ := der_kvs rs1 rv hm hk
    refine ⟨⟨a, kvs, rfl, xs, ep, h1, h2.le rs1.sub, h3⟩, ?_⟩
    refine kb σ H1 G1 ad1 ρ st1 _ rs1 (rl.step s1) (Post.bind q fun ws st2 vs G2 ad2 H2 _ s2 rs2 ru q2 => ?_)
    have rv2 := rv.step s2
    rcases gGet_inv q2 with ⟨m', y, kvs', y', k, e1, rfl, hk', e2, e3, q3⟩ | ⟨m', y, z, kvs', y', k, e1, rfl, hk', e2, e3, q3⟩
    · obtain ⟨a', xs', ep', ea, h1', h2', h3'⟩ := der_kvs rs2 rv2 e1 hk'
      cases ea
      cases ru with
      | cons ry rt =>
        cases rt
        exact ⟨a, xs', ep', kvs', k, rfl, h1', h2'.le rs2.sub, h3', .inl ⟨_, rfl, der_key rs2 ry e2 e3, q3.val rs2 (dget_val h2' .non)⟩⟩
    · obtain ⟨a', xs', ep', ea, h1', h2', h3'⟩ := der_kvs rs2 rv2 e1 hk'
      cases ea
      cases ru with
      | cons ry rt => cases rt with
        | cons rz rt =>
          cases rt
          cases rz with
          | d rz => exact ⟨a, xs', ep', kvs', k, rfl, h1', h2'.le rs2.sub, h3', .inr ⟨_, _, rfl, der_key rs2 ry e2 e3, q3.val rs2 (dget_val h2' rz)⟩⟩
  · exact q.elim
end

/-! ### calls of built-ins -/
section
variable {X : Cx} {Wx : WX} {x : Str} {p pos : Pos} {e : Expr} {es : List Expr} {FAs : AF} {id T : String} {r : List V → Hp → VK → Prop} {g : List W → Sto → R W}
theorem fe_bltn (o : OpA X Wx g r) (hc : CallR X (.builtin id) r) (hg : Gl X x) (hm : X.mg x = none) (hv : bootBuiltins x = some (.builtin id)) (ha : FA X Wx (e :: es) FAs) (hn : x ≠ "__name__" := by decide) (hdb : (x == ("__debug__" : Str)) = false := by decide)
    (he : starEach (e :: es) X.env = (false, eval e X.env) :: starEach es X.env := by rfl) (hpl : (backTo pos (starEach es X.env)).any (·.1) = false := by rfl) : FE X Wx (.Call (.Name x p) (e :: es) [] pos) (cA g FAs) :=
  fe_A o ha fun _ q => pe_callB hc hg hm hv q hn hdb he hpl
theorem fe_type (o : OpA X Wx g r) (hc : CallR X (.type T) r) (hg : Gl X x) (hm : X.mg x = none) (hv : bootBuiltins x = some (.type T)) (ha : FA X Wx (e :: es) FAs) (hn : x ≠ "__name__" := by decide) (hdb : (x == ("__debug__" : Str)) = false := by decide)
    (he : starEach (e :: es) X.env = (false, eval e X.env) :: starEach es X.env := by rfl) (hpl : (backTo pos (starEach es X.env)).any (·.1) = false := by rfl) : FE X Wx (.Call (.Name x p) (e :: es) [] pos) (cA g FAs) :=
  fe_A o ha fun _ q => pe_callTy hc hg hm hv q hn hdb he hpl
theorem CallR.or {f : Value} {r r' : List V → Hp → VK → Prop} (h : CallR X f r) (h' : CallR X f r') : CallR X f (fun xs H Q => r xs H Q ∨ r' xs H Q) := by
  intro pins s σ H xs us Q I rx q
  rcases q with q | q
  · exact h pins s σ H xs us Q I rx q
  · exact h' pins s σ H xs us Q I rx q
/-- one datum in, one out -/
def gA1 (f : PyData → Option PyData) (ws : List W) (st : Sto) : R W := match ws with | [w] => g1 f w st | _ => .bad
def gA2 (f : PyData → PyData → Option PyData) (ws : List W) (st : Sto) : R W := match ws with | [w, z] => g2 f w z st | _ => .bad
theorem opA1 {f : PyData → Option PyData} {r : V → Hp → VK → Prop} {r' : List V → Hp → VK → Prop} (o : Op1 X Wx (g1 f) r) (h : ∀ v H Q, r v H Q → r' [v] H Q) : OpA X Wx (gA1 f) r' := by
  intro σ H G ad st vs ws Q rs rv k
  unfold gA1 at k
  split at k
  · cases rv with | cons r1 rt => cases rt; exact h _ _ _ (o σ H G ad st _ _ Q rs r1 k)
  · exact k.elim
theorem opA2 {f : PyData → PyData → Option PyData} {r : R2} {r' : List V → Hp → VK → Prop} (o : Op2 X Wx (g2 f) r) (h : ∀ v u H Q, r v u H Q → r' [v, u] H Q) : OpA X Wx (gA2 f) r' := by
  intro σ H G ad st vs ws Q rs rv k
  unfold gA2 at k
  split at k
  · cases rv with | cons r1 rt => cases rt with | cons r2 rt => cases rt; exact h _ _ _ _ (o σ H G ad st _ _ _ _ Q rs r1 r2 k)
  · exact k.elim
end
def fLen : PyData → Option PyData
  | .list xs => some (.int xs.length)
  | .tuple xs => some (.int xs.length)
  | .dict m => if m.length ≤ sizeLine then some (.int m.length) else none
  | _ => none
section
variable {X : Cx} {Wx : WX}
def rLenX (C : Wd) : List V → Hp → VK → Prop := fun xs H Q => ∃ p, xs = [.ref p] ∧ ((∃ ys, (SqL C.K H p ys ∨ SqT C.K H p ys) ∧ Q (.int ys.length) H) ∨ (∃ kvs, DicAt C H p kvs ∧ kvs.length ≤ sizeLine ∧ Q (.int kvs.length) H))
theorem call_lenX : CallR X (.builtin "len") (rLenX (wd X)) := by
  intro pins s σ H xs us Q I r h
  obtain ⟨p, rfl, h⟩ := h
  rcases h with ⟨ys, h1, q⟩ | ⟨kvs, h1, hz, q⟩
  · exact call_len_seq pins s σ H _ us Q I r ⟨p, ys, rfl, h1, q⟩
  · obtain ⟨u, rfl, rx⟩ := vals1 r
    obtain rfl : u = .ref p := rx
    obtain ⟨es, vs, re, rd, hm, hsys⟩ := DicAt.get I h1
    have hl : kvs.length = vs.length := by rw [← rd.len, re.len]
    refine call_len_dictH hsys hm (by rw [← hl]; rw [sizeLine_eq] at hz; omega) ?_
    rw [← hl]
    exact ⟨.int _, H, I.tok _, ⟨_, rfl⟩, q⟩
theorem o_len : OpA X Wx (gA1 fLen) (rLenX (wd X)) := opA1 (r := fun x H Q => rLenX (wd X) [x] H Q) (op1_of fun σ H G ad st v w x d Q rs rv e1 e h => by
  unfold fLen at e
  split at e
  · cases e
    obtain ⟨p, vs, rfl, s1, r1⟩ := der_lst rs rv e1
    exact ⟨p, rfl, .inl ⟨vs, .inl (s1), by rw [r1.length]; exact h.val rs (.int _)⟩⟩
  · cases e
    obtain ⟨p, vs, rfl, s1, r1, _⟩ := der_tup rs rv e1
    exact ⟨p, rfl, .inl ⟨vs, .inr s1, by rw [r1.length]; exact h.val rs (.int _)⟩⟩
  · split at e
    · rename_i m hz
      cases e
      obtain ⟨kvs, hk⟩ := unKv_total rs rv e1
      obtain ⟨a, xs, ep, kvs', rfl, rfl, h1, h2, h3⟩ := der_dic rs rv e1
      rw [List.length_map] at h hz
      exact ⟨a, rfl,   .inr ⟨kvs', ⟨xs, ep, h1, h2.le rs.sub, h3⟩, hz, h.val rs (.int _)⟩⟩
    · cases e
  · cases e) fun _ _ _ h => h
end
end Fx

namespace Fx
open PySem PySem.Spec L2
open PyProof.Rows hiding St

/-! ### a turn that hands out new pairs -/
/-- n turns while Cd stands; at turn i a new pair of a i, b i -/
def ItP (n : Nat) (Cd : Hp → Prop) (pa pb : Nat → V) : It :=
  ⟨fun i H => i < n ∧ Cd H, fun i H v H' => ∃ T, v = .ref T ∧ H T = none ∧ H' = upd H T (.tup [pa i, pb i]), fun i H => i = n ∧ Cd H⟩
structure PairSrc (P : Program) (w : World) (K : PySem.W.Frag) (tg : Expr) (I : Addr) (wr : List Addr) (n : Nat) (tn : Nat → Heap → Prop) (Cd : Hp → Prop) (pa pb : Nat → V) : Prop where
  mem : I ∈ wr
  obj : ∀ i h, tn i h → ∀ b ∈ wr, ∃ o, h.get? b = some o ∧ ∀ v, o.data ≠ .cell v
  keep : ∀ i h h', tn i h → (∀ b ∈ wr, ∀ o, h.get? b = some o → h'.get? b = some o) → tn i h'
  go : ∀ (X : Cx) (pins : List (Addr × Obj)) (s : Shared) (σ : L2.St) (H : Hp), X.prog = P → X.w = w → X.K = K → X.A.handled = none → L2.Inv X pins σ H s → (∀ b ∈ wr, H b = none) → Cd H → ∀ i, i ≤ n → tn i s.heap →
    ∃ m fp wr' Y St, m = n ∧ GoesN P w X.A tg I fp wr' m Y St ∧ (∀ b ∈ wr', b ∈ wr) ∧ St i s.heap ∧ (∀ h', (∀ b o, b ∉ wr' → s.heap.get? b = some o → h'.get? b = some o) → St (i + 1) h' → tn (i + 1) h') ∧
      ∀ v h', i < n → Y i s.heap v h' → ∃ T ua ub, v = .ref T ∧ s.heap.objs.size ≤ T ∧ h'.IsTuple T #[ua, ub] ∧ RelV (pa i) ua ∧ RelV (pb i) ub
  self : ∀ (A : Around) (i : Nat) (s : Shared) (Q : Value → Shared → Prop) (E : Value → Shared → Prop), tn i s.heap → Q (.ref I) s → wpAny (model P w) A (pyIter (.ref I)) Q E s
theorem turn_pair {P : Program} {w : World} {K : PySem.W.Frag} {tg : Expr} {I : Addr} {wr : List Addr} {n : Nat} {tn : Nat → Heap → Prop} {Cd : Hp → Prop} {pa pb : Nat → V} (S : PairSrc P w K tg I wr n tn Cd pa pb) : Turn P w K tg (ItP n Cd pa pb) wr I tn where
  mem := S.mem
  obj := S.obj
  keep := S.keep
  item := by
    intro X hP hw hK hc i pins s σ H E Iv hf st hg
    obtain ⟨hi, cd⟩ := hg
    obtain ⟨m, fp, wr', Y, Si, em, G, hwr, s0, back, yv⟩ := S.go X pins s σ H hP hw hK (Iv.ok.hd hc) Iv (fun b hb => (hf b hb).1) cd i (Nat.le_of_lt hi) st
    subst em
    refine wpAny_mono (G.goes i s (fun u s2 => ∃ x H', L2.Inv X pins σ H' s2 ∧ RelV x u ∧ (ItP m Cd pa pb).yld i H x H' ∧ tn (i + 1) s2.heap ∧ ∀ b ∈ wr, H' b = none) E hi s0 ?_) (fun r s1 h => h) fun _ _ h => h
    intro v h' tk hY st' hk htk
    obtain ⟨T, ua, ub, rfl, hT, ht, ra, rb⟩ := yv v h' hi hY
    have new : ObjOk X.prog X.w (upd H T (.tup [pa i, pb i])) h' T (.tup [pa i, pb i]) := ⟨by show 2 ≤ sizeLine; decide, [ua, ub], .cons ra (.cons rb .nil), ht⟩
    have I1 : L2.Inv X pins σ (upd H T (.tup [pa i, pb i])) { s with heap := h', toks := tk } := Iv.turnedNew (ch := wr) (fun b ob hb e => hk b ob (fun z => hb (hwr b z)) e) hf hT new
    refine ⟨.ref T, _, I1, rfl, ⟨T, rfl, Iv.hok.fresh hT, rfl⟩, back h' hk st', fun b hb => ?_⟩
    obtain ⟨o, ho, _⟩ := S.obj i s.heap st b hb
    rw [upd_ne (Nat.ne_of_lt (Nat.lt_of_lt_of_le (Heap.lt_size ho) hT))]
    exact (hf b hb).1
  done := by
    intro X hP hw hK hc i pins s σ H E Iv hf st hg
    obtain ⟨rfl, cd⟩ := hg
    obtain ⟨m, fp, wr', Y, Si, em, G, hwr, s0, _⟩ := S.go X pins s σ H hP hw hK (Iv.ok.hd hc) Iv (fun b hb => (hf b hb).1) cd i (Nat.le_refl _) st
    subst em
    refine G.stops s (fun s1 => L2.Inv X pins σ H s1) E s0 fun h' tk hk htk => ?_
    exact Iv.turnedL (ch := wr) (fun b o hb e => hk b o (fun z => hb (hwr b z)) e) hf
  self := S.self
theorem iters_pair {C : Wd} {G : Hp} {ad : List Addr} {n : Nat} {Cd : Hp → Prop} {pa pb : Nat → V} {ws : List W} (hn : ws.length = n) (cd : ∀ G1 H1, Le G G1 → Le G1 H1 → Cd H1)
    (hw : ∀ i w, ws[i]? = some w → ∃ x y, w = .d (.tuple [x, y]) ∧ Dv C G (pa i) x ∧ Dv C G (pb i) y) : Iters C G ad (ItP n Cd pa pb) ws := by
  intro G1 ad1 H1 g p s
  refine ⟨fun i w e => ⟨⟨by rw [← hn]; exact (List.getElem?_eq_some_iff.mp e).1, cd G1 H1 g s⟩, fun x H' y => ?_⟩, ⟨hn, cd G1 H1 g s⟩⟩
  obtain ⟨T, rfl, hT, rfl⟩ := y
  obtain ⟨a, b, rfl, da, db⟩ := hw i w e
  refine ⟨upd G1 T (.tup [pa i, pb i]), fun st rs => ⟨Step.newG rs hT, rs.newG hT, .d (.tup (SqT.of upd_same) ?_)⟩⟩
  have le : Le G1 (upd G1 T (.tup [pa i, pb i])) := Le.upd (rs.sub.none hT)
  exact .cons (da.le (g.trans le)) (.cons (db.le (g.trans le)) .nil)

/-! ### enumerate -/
theorem enum_src {P : Program} {w : World} {K : PySem.W.Frag} {elts : List Expr} {kk : Nat} {tpos : Pos} {a e it : Addr} {xs : List V} (hei : e ≠ it) (lst : Bool) :
    PairSrc P w K (.Tuple elts kk tpos) e [e, it] xs.length (fun i h => (∃ old, IsEnum h e it (0 + (i : Int)) old) ∧ (if lst = true then h.IsListIter it a i else h.IsTupleIter it a i)) (fun H => if lst = true then SqL K H a xs else SqT K H a xs) (fun i => .int (i : Int)) (fun i => xs.getD i .non) where
  mem := by simp
  obj := fun i h st b hb => by
    obtain ⟨⟨old, he⟩, hi⟩ := st
    have e' : b = e ∨ b = it := by simpa using hb
    rcases e' with z | z
    · rw [z]; exact ⟨_, he, fun v q => nomatch q⟩
    · rw [z]
      cases lst with
      | true => obtain ⟨o, ho, hc, hd⟩ := (show h.IsListIter it a i from hi); exact ⟨o, ho, fun v q => by rw [hd] at q; cases q⟩
      | false => obtain ⟨o, ho, hc, hd⟩ := (show h.IsTupleIter it a i from hi); exact ⟨o, ho, fun v q => by rw [hd] at q; cases q⟩
  keep := fun i h h' st k => by
    obtain ⟨⟨old, he⟩, hi⟩ := st
    refine ⟨⟨old, k e (by simp) _ he⟩, ?_⟩
    cases lst with
    | true => exact (show h.IsListIter it a i from hi).at fun o q => k it (by simp) o q
    | false => exact (show h.IsTupleIter it a i from hi).at fun o q => k it (by simp) o q
  go := by
    intro X pins s σ H hP hw hK hh Iv hf cd i hi st
    subst hP hw hK
    obtain ⟨⟨old, he⟩, hit⟩ := st
    have hlt : ∀ {its : List Value}, Vals xs its → ∀ j u, its.toArray[j]? = some u → j < xs.length → RelV (xs.getD j .non) u := fun {its} rv j u hu hj => by
      obtain ⟨u', e1, r⟩ := rv.get (List.getElem?_eq_getElem hj)
      have : u' = u := Option.some.inj (e1.symm.trans (by simpa using hu))
      subst this
      rw [List.getD_eq_getElem?_getD, List.getElem?_eq_getElem hj]
      exact r
    have hh1 : X.A.in1.handled = none := hh
    cases lst with
    | true =>
      have cd : SqL X.K H a xs := cd
      have hit : s.heap.IsListIter it a i := hit
      obtain ⟨its, rv, p, hz⟩ := Iv.list cd
      have hne : a ≠ it := fun z => by
        obtain ⟨o1, n1, e1, c1, _⟩ := p; obtain ⟨o2, e2, c2, _⟩ := hit
        rw [z, e2] at e1; have e3 := Option.some.inj e1; rw [e3, c1] at c2; exact absurd c2 (by decide)
      have hne2 : a ≠ e := fun z => by
        obtain ⟨o1, n1, e1, c1, _⟩ := p
        rw [z, he] at e1; have e3 := Option.some.inj e1; rw [← e3] at c1; exact absurd (show Value.type "enumerate" = _ from c1) (by decide)
      have hl : its.toArray.size = xs.length := by rw [List.size_toArray, rv.length]
      have Gn := GoesN.enumFrom (elts := elts) (x1 := kk) (pos := tpos) 0 (Draws.list (prog := X.prog) (w := X.w) hh1 it a hne its.toArray) e hei (by simp; exact ⟨hei, fun z => hne2 z.symm⟩) (by simp)
      refine ⟨_, _, _, _, _, hl, Gn, fun b hb => hb, ⟨⟨old, he⟩, hit, p.isList⟩, fun h' _ st' => ⟨st'.1, st'.2.1⟩, fun v h' hlt' hY => ?_⟩
      obtain ⟨T, t, x, rfl, hT, hx, ht⟩ := hY
      exact ⟨T, _, _, rfl, hT, ht, ⟨t, by simp⟩, hlt rv i x hx hlt'⟩
    | false =>
      have cd : SqT X.K H a xs := cd
      have hit : s.heap.IsTupleIter it a i := hit
      obtain ⟨its, rv, p, hz⟩ := Iv.tuple cd
      have hne : a ≠ it := fun z => by
        obtain ⟨o1, e1, c1, _⟩ := p; obtain ⟨o2, e2, c2, _⟩ := hit
        rw [z, e2] at e1; have e3 := Option.some.inj e1; rw [e3, c1] at c2; exact absurd c2 (by decide)
      have hne2 : a ≠ e := fun z => by
        obtain ⟨o1, e1, c1, _⟩ := p
        rw [z, he] at e1; have e3 := Option.some.inj e1; rw [← e3] at c1; exact absurd (show Value.type "enumerate" = _ from c1) (by decide)
      have hl : its.toArray.size = xs.length := by rw [List.size_toArray, rv.length]
      have Gn := GoesN.enumFrom (elts := elts) (x1 := kk) (pos := tpos) 0 (Draws.tuple (prog := X.prog) (w := X.w) hh1 it a hne its.toArray) e hei (by simp; exact ⟨hei, fun z => hne2 z.symm⟩) (by simp)
      refine ⟨_, _, _, _, _, hl, Gn, fun b hb => hb, ⟨⟨old, he⟩, hit, p⟩, fun h' _ st' => ⟨st'.1, st'.2.1⟩, fun v h' hlt' hY => ?_⟩
      obtain ⟨T, t, x, rfl, hT, hx, ht⟩ := hY
      exact ⟨T, _, _, rfl, hT, ht, ⟨t, by simp⟩, hlt rv i x hx hlt'⟩
  self := fun A i s Q E st h => let ⟨⟨_, he⟩, _⟩ := st; wpAny_pyIter_enum he h
/-- the items of a list or tuple, each with its place -/
def packE : Nat → List PyData → List W
  | _, [] => []
  | i, d :: ds => .d (.tuple [.int (i : Int), d]) :: packE (i + 1) ds
theorem packE_len : ∀ (i : Nat) (ds : List PyData), (packE i ds).length = ds.length
  | _, [] => rfl
  | i, d :: ds => by simp [packE, packE_len (i + 1) ds]
theorem packE_get : ∀ (k : Nat) (ds : List PyData) (i : Nat) (w : W), (packE k ds)[i]? = some w → ∃ d, ds[i]? = some d ∧ w = .d (.tuple [.int ((k + i : Nat) : Int), d])
  | _, [], i, w, e => by simp [packE] at e
  | k, d :: ds, 0, w, e => by simp [packE] at e; exact ⟨d, rfl, e.symm⟩
  | k, d :: ds, i + 1, w, e => by
    obtain ⟨d', h1, h2⟩ := packE_get (k + 1) ds i w (by simpa [packE] using e)
    exact ⟨d', by simpa using h1, by rw [h2, show k + 1 + i = k + (i + 1) by omega]⟩
/-- what is walked, frozen: a list's or tuple's items -/
def seqOf : PyData → Option (List PyData)
  | .list xs => some xs
  | .tuple xs => some xs
  | _ => none
def iEnumF (a : EF) : AF := fun ρ st => (a ρ st).bind fun w st => match frz w st with | none => .bad | some (x, st) => match seqOf x with | some xs => .ok (packE 0 xs) st | none => .bad
def iEnumX (K : PySem.W.Frag) (ta : TA) : TI := fun σ H R => ta σ H fun vs H1 => ∃ a xs, vs = [.ref a] ∧ ((SqL K H1 a xs ∧ R (ItP xs.length (fun H => SqL K H a xs) (fun i => .int (i : Int)) (fun i => xs.getD i .non)) H1) ∨ (SqT K H1 a xs ∧ R (ItP xs.length (fun H => SqT K H a xs) (fun i => .int (i : Int)) (fun i => xs.getD i .non)) H1))
theorem enum_new1 {v : Value} {o : Obj} {Hs : Heap → Prop} (B : Begins v o Hs) : Meets (Builtin.«enumerate.__new__» ⟨[.type "enumerate", v], []⟩) (fun _ R s => Hs s.heap ∧ ∀ x y, y = (s.heap.push o).objs.size → x = (s.heap.push o).push { cls := .type "enumerate", data := .fields #[.none, .bool false, .ref s.heap.objs.size, rawInt 0, .none, .none] } → R (.ok (.ret (.ref y))) { s with heap := x }) :=
  .of_wp fun prog w A R s h => by
    obtain ⟨hp, gs, dr, tk, os⟩ := s
    obtain ⟨hs, h⟩ := h
    have start : ∀ {A' : Around} {E : Value → Shared → Prop} {Q : Value → Shared → Prop}, Q (.ref hp.objs.size) ⟨hp.push o, gs, dr, tk, os⟩ → wpAny (model prog w) A' (pyIter v) Q E ⟨hp, gs, dr, tk, os⟩ := fun q => B.iter prog w _ _ ⟨hp, gs, dr, tk, os⟩ _ hs q
    have sub := sub_enumerate
    wp_walk using start
    refine wpAny_stack_any fun _ => wpAny_pure ?_
    split
    · rename_i c _ _ _ _ _
      cases (c == Value.type "enumerate") <;> (wp_walk using start; exact ⟨_, rfl, h _ _ rfl rfl⟩)
    · wp_walk using start
      exact ⟨_, rfl, h _ _ rfl rfl⟩
theorem enum_call1 {prog : Program} {w : World} {A : Around} {E : Value → Shared → Prop} {s : Shared} {v : Value} {o : Obj} {Hs : Heap → Prop} {Q : Value → Shared → Prop} (B : Begins v o Hs) (h1 : Hs s.heap)
    (h : ∀ h', IsEnum h' (s.heap.objs.size + 1) s.heap.objs.size 0 .none → h'.get? s.heap.objs.size = some o → (∀ b u, s.heap.get? b = some u → h'.get? b = some u) → Q (.ref (s.heap.objs.size + 1)) { s with heap := h' }) :
    wpAny (model prog w) A (call (.type "enumerate") [v]) Q E s := by
  refine callType_new F.called_enumerate (by decide) (F.typeCall_enumerate_1 _) (F.newCall_enumerate_1 _) (fun obj => F.args_object_init_2 obj _) F.entry_enumerate_new (enum_new1 B) ⟨h1, fun x y ey ex => ?_⟩
  have hz : (s.heap.push o).objs.size = s.heap.objs.size + 1 := Heap.size_push ..
  rw [hz] at ey
  subst ey
  have he : IsEnum x (s.heap.objs.size + 1) s.heap.objs.size 0 .none := by
    rw [ex, ← hz]
    exact Heap.get?_push_size (s.heap.push o) rfl
  exact ⟨⟨_, he, rfl⟩, h x he (by rw [ex]; exact Heap.get?_push_of_some _ (Heap.get?_push_size _ B.free)) fun b u q => by rw [ex]; exact Heap.get?_push_of_some _ (Heap.get?_push_of_some _ q)⟩
theorem pi_enumX {X : Cx} {e : Expr} {ta : TA} {p pos tpos : Pos} {elts : List Expr} {kk : Nat} (hg : Gl X "enumerate") (hm : X.mg "enumerate" = none) (ha : PA X [e] ta) (hs : starEach [e] X.env = [(false, eval e X.env)] := by rfl) :
    PI X (.Tuple elts kk tpos) (.Call (.Name "enumerate" p) [e] [] pos) (iEnumX X.K ta) := by
  refine ⟨fun pins s σ H R I h => Call_ (ld_blt I hg hm boot_enumerate (PyProof.Rows.callWith_type1 (thn (ha.run pos pins s σ H _ I h) fun us s1 q1 => ?_) hs rfl))⟩
  obtain ⟨vs, H1, I1, r1, a, xs, rfl, q⟩ := q1
  obtain ⟨u, rfl, ru⟩ := vals1 r1
  cases ru
  have fp : ∀ b, b ∈ [s1.heap.objs.size + 1, s1.heap.objs.size] → FpOk X pins H1 b := fun b hb => by
    have e' : b = s1.heap.objs.size + 1 ∨ b = s1.heap.objs.size := by simpa using hb
    have hle : s1.heap.objs.size ≤ b := by
      rcases e' with z | z <;> rw [z]
      · exact Nat.le_add_right _ _
      · exact Nat.le_refl _
    exact I1.fpOk hle (I1.hok.fresh hle)
  rcases q with ⟨hq, q⟩ | ⟨hq, q⟩
  · obtain ⟨its, rv, p', hz⟩ := I1.list hq
    refine enum_call1 (begins_list a its.toArray) p'.isList fun h' he hit hk => wpAny_pyIter_enum he ?_
    have I2 : L2.Inv X pins σ H1 { s1 with heap := h' } := I1.kept (t' := s1.toks) hk
    exact ⟨s1.heap.objs.size + 1, [s1.heap.objs.size + 1, s1.heap.objs.size], _, _, H1, rfl, I2, turn_pair (enum_src (a := a) (xs := xs) (Nat.succ_ne_self _) true), ⟨⟨.none, he⟩, ⟨_, hit, rfl, rfl⟩⟩, fp, q⟩
  · obtain ⟨its, rv, p', hz⟩ := I1.tuple hq
    refine enum_call1 (begins_tuple a its.toArray) p' fun h' he hit hk => wpAny_pyIter_enum he ?_
    have I2 : L2.Inv X pins σ H1 { s1 with heap := h' } := I1.kept (t' := s1.toks) hk
    exact ⟨s1.heap.objs.size + 1, [s1.heap.objs.size + 1, s1.heap.objs.size], _, _, H1, rfl, I2, turn_pair (enum_src (a := a) (xs := xs) (Nat.succ_ne_self _) false), ⟨⟨.none, he⟩, ⟨_, hit, rfl, rfl⟩⟩, fp, q⟩
section
variable {X : Cx} {Wx : WX}
theorem post_frzI {U α : Type} {G : Hp} {ad : List Addr} {H : Hp} {st : Sto} {v : V} {z : W} {rel : Hp → List Addr → U → α → Prop} {Q : U → Hp → Prop} {f : PyData → Sto → R α} {σ : L2.St} (rs : RepS (wd X) G ad st H) (rv : Wv (wd X) G ad v z)
    (h : Post X Wx G ad H σ rel (match frz z st with | none => .bad | some (x, st) => f x st) Q) : ∃ x st' G', frz z st = some (x, st') ∧ Step G ad H G' ad H ∧ RepS (wd X) G' ad st' H ∧ Dv (wd X) G' v x ∧ Post X Wx G' ad H σ rel (f x st') Q := by
  cases e : frz z st with
  | none => rw [e] at h; exact h.elim
  | some p =>
    obtain ⟨x, st'⟩ := p
    rw [e] at h
    obtain ⟨G', s', rs', d'⟩ := frz_ok rs rv e
    exact ⟨x, st', G', rfl, s', rs', d', h.mono s'⟩
theorem seqOf_rel {C : Wd} {G : Hp} {v : V} {x : PyData} {ds : List PyData} (r : Dv C G v x) (e : seqOf x = some ds) : ∃ a xs, v = .ref a ∧ DvAll C G xs ds ∧ ((x = .list ds ∧ SqL C.K G a xs) ∨ (x = .tuple ds ∧ SqT C.K G a xs)) := by
  cases r with
  | lst h r => cases e; exact ⟨_, _, rfl, r, .inl ⟨rfl, h⟩⟩
  | tup h r => cases e; exact ⟨_, _, rfl, r, .inr ⟨rfl, h⟩⟩
  | _ => cases e
theorem fi_enum {e : Expr} {Fe : EF} {p pos tpos : Pos} {elts : List Expr} {kk : Nat} (hg : Gl X "enumerate") (hm : X.mg "enumerate" = none) (he : FE X Wx e Fe) (hs : starEach [e] X.env = [(false, eval e X.env)] := by rfl) :
    FI X Wx (.Tuple elts kk tpos) (.Call (.Name "enumerate" p) [e] [] pos) (iEnumF Fe) := by
  obtain ⟨t, q, k⟩ := he
  refine ⟨_, pi_enumX hg hm (pa_cons q pa_nil (by rw [hs]; rfl)) hs, fun σ H G ad ρ st Q rs rl h => ?_⟩
  refine k σ H G ad ρ st _ rs rl (Post.bind h fun w st1 v G1 ad1 H1 _ s1 rs1 rv q1 => ?_)
  obtain ⟨x, st2, G2, _, s2, rs2, d2, q2⟩ := post_frzI rs1 rv q1
  split at q2
  · rename_i ds es
    obtain ⟨a, xs, rfl, ra, hx⟩ := seqOf_rel d2 es
    have hl := ra.length
    have it : ∀ (i : Nat) (w : W), (packE 0 ds)[i]? = some w → ∃ x y, w = .d (.tuple [x, y]) ∧ Dv (wd X) G2 (.int (i : Int)) x ∧ Dv (wd X) G2 (xs.getD i .non) y := fun i w e => by
      obtain ⟨d, h1, rfl⟩ := packE_get 0 ds i w e
      obtain ⟨v, h2, h3⟩ := ra.get h1
      exact ⟨_, _, rfl, by rw [Nat.zero_add]; exact .int _, by rw [List.getD_eq_getElem?_getD, h2]; exact h3⟩
    rcases hx with ⟨rfl, hx⟩ | ⟨rfl, hx⟩
    · exact ⟨a, xs, rfl, .inl ⟨Le.sqL rs2.sub hx, q2 _ G2 ad1 H1 .refl rs2 (iters_pair (by rw [packE_len, hl]) (fun G3 H3 g s => Le.sqL s (Le.sqL g hx)) it)⟩⟩
    · exact ⟨a, xs, rfl, .inr ⟨Le.sqT rs2.sub hx, q2 _ G2 ad1 H1 .refl rs2 (iters_pair (by rw [packE_len, hl]) (fun G3 H3 g s => Le.sqT s (Le.sqT g hx)) it)⟩⟩
  · exact q2.elim
end
end Fx

namespace Fx
open PySem PySem.Spec L2
open PyProof.Rows hiding St

/-! ### lists, tuples, dicts walked -/
/-- the keys of the dict at d -/
def ItK (C : Wd) (d : Addr) (xs : Ents) (ep : Nat) : It :=
  ⟨fun i H => i < xs.length ∧ H d = some (dicO C d xs ep), fun i H v H' => H' = H ∧ ∃ k b u, xs[i]? = some (k, b, u) ∧ v = .ref b, fun i H => i = xs.length ∧ H d = some (dicO C d xs ep)⟩
theorem dic_raw {X : Cx} {pins : List (Addr × Obj)} {σ : L2.St} {H : Hp} {s : Shared} (I : L2.Inv X pins σ H s) {d : Addr} {xs : Ents} {ep : Nat} (h : H d = some (dicO (wd X) d xs ep)) :
    ∃ es vs, s.heap.DictRaw d es ep ∧ es.size = xs.length ∧ EntsRel xs vs ∧ (d == sysModules) = false ∧ ∀ i (hi : i < es.size), ∃ k b v u, xs[i]? = some (k, b, v) ∧ es[i].key = .ref b ∧ es[i].val = u ∧ RelV v u := by
  obtain ⟨⟨o, es, vs, e, hx, hd, re, hes, hs⟩, _⟩ := I.hok d _ h
  have hsz : es.size = xs.length := by rw [← Array.length_toList, hes, List.length_map, ← re.len]
  refine ⟨es, vs, ⟨o, e, hx, hd⟩, hsz, re, hs, fun i hi => ?_⟩
  have hv : i < vs.length := by rw [← re.len, ← hsz]; exact hi
  have hxl : i < xs.length := by rw [← hsz]; exact hi
  have e1 : es[i] = entryOfKey (nestedKind X.prog X.w) vs[i] := by
    have : es.toList[i]? = some (entryOfKey (nestedKind X.prog X.w) vs[i]) := by rw [hes, List.getElem?_map, List.getElem?_eq_getElem hv]; rfl
    rw [Array.getElem?_toList, Array.getElem?_eq_getElem hi] at this
    exact Option.some.inj this
  have rel : ∀ {xs : Ents} {vs : List (NestedKey × Addr × Value)} (j : Nat) (h1 : j < xs.length) (h2 : j < vs.length), EntsRel xs vs → xs[j].1 = vs[j].1 ∧ xs[j].2.1 = vs[j].2.1 ∧ RelV xs[j].2.2 vs[j].2.2 := by
    intro xs vs j h1 h2 r
    induction r generalizing j with
    | nil => cases h1
    | cons h t ih =>
      cases j with
      | zero => exact h
      | succ j => exact ih j (by simpa using h1) (by simpa using h2)
  obtain ⟨r1, r2, r3⟩ := rel i hxl hv re
  refine ⟨xs[i].1, xs[i].2.1, xs[i].2.2, vs[i].2.2, List.getElem?_eq_getElem hxl, ?_, ?_, r3⟩
  · rw [e1, r2]; rfl
  · rw [e1]; rfl
theorem turn_dkeys {C : Wd} {tg : Expr} {d it : Addr} {xs : Ents} {ep : Nat} : Turn C.P C.w C.K tg (ItK C d xs ep) [it] it (fun i h => h.IsKeyIter it d i xs.length ep) where
  mem := by simp
  obj := fun i h st b hb => by
    obtain rfl : b = it := by simpa using hb
    obtain ⟨o, e, c, dd⟩ := st
    exact ⟨o, e, fun v z => by rw [dd] at z; cases z⟩
  keep := fun i h h' st k => st.at fun o e => k it (by simp) o e
  item := by
    intro X hP hw hK hc i pins s σ H E I hf st hg
    obtain ⟨P, w, K⟩ := C
    simp only at hP hw hK
    subst hP hw hK
    obtain ⟨hi, hd⟩ := hg
    obtain ⟨es, vs, hm, hsz, re, hs, hent⟩ := dic_raw I hd
    obtain ⟨f0, f1, f2, f3, f4, f5⟩ := hf it (by simp)
    have hi' : i < es.size := by rw [hsz]; exact hi
    obtain ⟨k, b, v, u, hx, hk, _, _⟩ := hent i hi'
    have st' : s.heap.IsKeyIter it d i es.size ep := by rw [hsz]; exact st
    refine wpAny_pyNext_keys_item_raw st' hm hi' fun h' hit sb => ?_
    have I1 : L2.Inv X pins σ H { s with heap := h' } := I.turned (t' := s.toks) (fun c o hc e => (sb.2 c hc).trans e) f0 f1 f3 f4 f5
    obtain ⟨o, e, c, dd⟩ := id hit
    rw [hsz] at hit
    exact ⟨_, rfl, go_of (s := { s with heap := h' }) e c dd (by decide) ⟨.ref b, H, I1, hk, ⟨rfl, k, b, v, hx, rfl⟩, hit, fun c hc => (hf c hc).1⟩⟩
  done := by
    intro X hP hw hK hc i pins s σ H E I hf st hg
    obtain ⟨P, w, K⟩ := C
    simp only at hP hw hK
    subst hP hw hK
    obtain ⟨hi, hd⟩ := hg
    obtain ⟨es, vs, hm, hsz, re, hs, hent⟩ := dic_raw I hd
    obtain ⟨f0, f1, f2, f3, f4, f5⟩ := hf it (by simp)
    have st' : s.heap.IsKeyIter it d i es.size ep := by rw [hsz]; exact st
    exact wpAny_pyNext_keys_end_raw (I.ok.hd hc) st' hm (by omega) fun h' eb => ⟨rfl, I.turned (t' := s.toks) (fun c o hc e => eb c o hc e) f0 f1 f3 f4 f5⟩
  self := fun A i s Q E st h => by
    refine wpAny_pyIter_slot st.typeIs F.slot_dict_keyiterator_iter (wpAny_call_entry F.slot_dict_keyiterator_iter st.typeIs F.entry_dict_keyiterator_iter ?_ (F.args_dict_keyiterator_iter_1 _))
    show wpAny _ _ (ret (.ref it)) _ _ s
    exact wpAny_pure ⟨_, rfl, "dict_keyiterator", _, st.typeIs, F.slot_dict_keyiterator_next.lookup, h⟩
def iAny (C : Wd) (tl : TE) : TI := fun σ H R => tl σ H fun x H1 => ∃ a, x = .ref a ∧ (((∃ xs, SqL C.K H1 a xs) ∧ R (Itl C.K a) H1) ∨ ((∃ xs, SqT C.K H1 a xs) ∧ R (Itt C.K a) H1) ∨ ∃ xs ep, H1 a = some (dicO C a xs ep) ∧ R (ItK C a xs ep) H1)
theorem pi_any {X : Cx} {tg l : Expr} {tl : TE} (hl : PE X l tl) : PI X tg l (iAny (wd X) tl) := by
  refine ⟨fun pins s σ H R I h => thn (hl.run pins s σ H _ I h) fun v s1 q1 => ?_⟩
  obtain ⟨x, H1, I1, r1, a, rfl, q⟩ := q1
  cases r1
  rcases q with ⟨⟨xs, hq⟩, q⟩ | ⟨⟨xs, hq⟩, q⟩ | ⟨xs, ep, hd, q⟩
  · obtain ⟨its, rv, p, hz⟩ := I1.list hq
    exact wpAny_pyIter_list p.isList (pi_one (tk := s1.toks) I1 _ (turn_list a _) ⟨_, Heap.get?_push_size _ rfl, rfl, rfl⟩ q)
  · obtain ⟨its, rv, p, hz⟩ := I1.tuple hq
    exact wpAny_pyIter_tuple (show s1.heap.IsTuple a its.toArray from p) (pi_one (tk := s1.toks) I1 _ (turn_tuple a _) ⟨_, Heap.get?_push_size _ rfl, rfl, rfl⟩ q)
  · obtain ⟨es, vs, hm, hsz, re, hs, hent⟩ := dic_raw I1 hd
    refine wpAny_pyIter_dict_raw hs hm (pi_one (tk := s1.toks) I1 _ (turn_dkeys (C := wd X) (d := a) (xs := xs) (ep := ep)) ⟨_, Heap.get?_push_size _ rfl, rfl, ?_⟩ q)
    rw [hsz]; rfl
/-- the things that a walk over a datum gives -/
def walkD : PyData → Option (List PyData)
  | .list xs => some xs
  | .tuple xs => some xs
  | .dict m => some (m.map (·.1))
  | _ => none
def iSeqF (a : EF) : AF := fun ρ st => (a ρ st).bind fun w st => match w with
  | .hs ns => .ok (ns.map .h) st
  | w => match frz w st with | none => .bad | some (x, st) => match walkD x with | some xs => .ok (xs.map .d) st | none => .bad
theorem iters_seq {C : Wd} {G : Hp} {ad : List Addr} {J : It} {ws : List W} {vs : List V} (hn : vs.length = ws.length) (hw : ∀ (i : Nat) w, ws[i]? = some w → ∃ v, vs[i]? = some v ∧ Wv C G ad v w)
    (go : ∀ G1 H1, Le G G1 → Le G1 H1 → (∀ i, i < vs.length → J.go i H1) ∧ (∀ i x H', i < vs.length → J.yld i H1 x H' → H' = H1 ∧ vs[i]? = some x) ∧ J.stop vs.length H1) : Iters C G ad J ws := by
  intro G1 ad1 H1 g p s
  obtain ⟨h1, h2, h3⟩ := go G1 H1 g s
  refine ⟨fun i w e => ?_, by rw [← hn]; exact h3⟩
  obtain ⟨v, e1, r⟩ := hw i w e
  refine ⟨h1 i (List.getElem?_eq_some_iff.mp e1).1, fun x H' y => ⟨G1, fun st rs => ?_⟩⟩
  obtain ⟨rfl, e2⟩ := h2 i x H' (List.getElem?_eq_some_iff.mp e1).1 y
  rw [e1] at e2
  cases e2
  exact ⟨.refl, rs, r.le g p⟩
section
variable {X : Cx} {Wx : WX} {e tg : Expr} {Fe : EF}
theorem fi_seq (he : FE X Wx e Fe) : FI X Wx tg e (iSeqF Fe) := by
  obtain ⟨t, q, k⟩ := he
  refine ⟨_, pi_any q, fun σ H G ad ρ st Q rs rl h => ?_⟩
  refine k σ H G ad ρ st _ rs rl (Post.bind h fun w st1 v G1 ad1 H1 _ s1 rs1 rv q1 => ?_)
  by_cases hh : ∃ ns, w = .hs ns
  · obtain ⟨ns, rfl⟩ := hh
    cases rv with
    | @hs a vs _ hg hp =>
      have rd : ∀ G3 H3, Le G1 G3 → Le G3 H3 → SqL X.K H3 a vs := fun G3 H3 g s => .inl (.inl (s _ _ (g _ _ hg)))
      refine ⟨a, rfl, .inl ⟨⟨vs, rd G1 H1 Le.refl rs1.sub⟩, q1 _ G1 ad1 H1 .refl rs1 (iters_seq (vs := vs) (by rw [List.length_map]; exact Paired.length hp) (fun i w e => ?_) fun G3 H3 g s => ⟨fun i hi => ⟨vs, vs[i], rd G3 H3 g s, List.getElem?_eq_getElem hi⟩, fun i x H' hi y => ⟨y.1, y.2 vs (rd G3 H3 g s)⟩, ⟨vs, rd G3 H3 g s, Nat.le_refl _⟩⟩)⟩⟩
      rw [List.getElem?_map] at e
      cases en : ns[i]? with
      | none => rw [en] at e; cases e
      | some n =>
        rw [en] at e
        cases e
        have go : ∀ {vs : List V} {ns : List Nat} (i : Nat) (n : Nat), Paired (fun v n => ∃ b, ad1[n]? = some b ∧ v = V.ref b) vs ns → ns[i]? = some n → ∃ b, ad1[n]? = some b ∧ vs[i]? = some (V.ref b) := by
          intro vs ns i n p e
          induction p generalizing i with
          | nil => simp at e
          | cons h t ih =>
            cases i with
            | zero => simp at e; subst e; obtain ⟨b, h1, rfl⟩ := h; exact ⟨b, h1, rfl⟩
            | succ i => obtain ⟨b, h1, h2⟩ := ih i (by simpa using e); exact ⟨b, h1, by simpa using h2⟩
        obtain ⟨b, h1, h2⟩ := go i n hp en
        exact ⟨_, h2, .h h1⟩
  · have q1' : Post X Wx G1 ad1 H1 σ (fun G' ad' (J : It) ws => Iters (wd X) G' ad' J ws) (match frz w st1 with | none => .bad | some (x, st) => match walkD x with | some xs => .ok (xs.map .d) st | none => .bad) Q := by
      cases w with
      | hs ns => exact absurd ⟨ns, rfl⟩ hh
      | d x => exact q1
      | h n => exact q1
      | fn a => exact q1
    obtain ⟨x, st2, G2, _, s2, rs2, d2, q2⟩ := post_frzI rs1 rv q1'
    split at q2
    · rename_i ds es
      have cv : ∀ {vs : List V}, DvAll (wd X) G2 vs ds → ∀ (i : Nat) w, (ds.map W.d)[i]? = some w → ∃ v, vs[i]? = some v ∧ Wv (wd X) G2 ad1 v w := fun {vs} r i w e => by
        rw [List.getElem?_map] at e
        cases en : ds[i]? with
        | none => rw [en] at e; cases e
        | some d => rw [en] at e; cases e; obtain ⟨v, h1, h2⟩ := r.get en; exact ⟨v, h1, .d h2⟩
      cases d2 with
      | @lst a xs _ hx ra =>
        cases es
        have rd : ∀ G3 H3, Le G2 G3 → Le G3 H3 → SqL X.K H3 a xs := fun G3 H3 g s => Le.sqL s (Le.sqL g hx)
        exact ⟨a, rfl, .inl ⟨⟨xs, rd G2 H1 Le.refl rs2.sub⟩, q2 _ G2 ad1 H1 .refl rs2 (iters_seq (vs := xs) (by rw [List.length_map]; exact ra.length) (cv ra) fun G3 H3 g s => ⟨fun i hi => ⟨xs, xs[i], rd G3 H3 g s, List.getElem?_eq_getElem hi⟩, fun i x H' hi y => ⟨y.1, y.2 xs (rd G3 H3 g s)⟩, ⟨xs, rd G3 H3 g s, Nat.le_refl _⟩⟩)⟩⟩
      | @tup a xs _ hx ra =>
        cases es
        have rd : ∀ G3 H3, Le G2 G3 → Le G3 H3 → SqT X.K H3 a xs := fun G3 H3 g s => Le.sqT s (Le.sqT g hx)
        exact ⟨a, rfl, .inr (.inl ⟨⟨xs, rd G2 H1 Le.refl rs2.sub⟩, q2 _ G2 ad1 H1 .refl rs2 (iters_seq (vs := xs) (by rw [List.length_map]; exact ra.length) (cv ra) fun G3 H3 g s => ⟨fun i hi => ⟨xs, xs[i], rd G3 H3 g s, List.getElem?_eq_getElem hi⟩, fun i x H' hi y => ⟨y.1, y.2 xs (rd G3 H3 g s)⟩, ⟨xs, rd G3 H3 g s, Nat.le_refl _⟩⟩)⟩)⟩
      | @dic a xs ep kvs hx rk nd =>
        cases es
        have rd : ∀ G3 H3, Le G2 G3 → Le G3 H3 → H3 a = some (dicO (wd X) a xs ep) := fun G3 H3 g s => s _ _ (g _ _ hx)
        have keys : ∀ {xs : Ents} {kvs : Kvs}, DvKv (wd X) G2 xs kvs → DvAll (wd X) G2 (xs.map fun x => V.ref x.2.1) (kvs.map fun p => p.1.data) := by
          intro xs kvs r
          induction xs generalizing kvs with
          | nil => cases r; exact .nil
          | cons y ys ih => cases r with | cons h1 h2 h3 h4 => exact .cons h1 (ih h4)
        have ra := keys rk
        have ee : ((kvs.map fun p => (p.1.data, p.2)).map (·.1)) = kvs.map fun p => p.1.data := by rw [List.map_map]; rfl
        rw [ee] at q2 cv
        refine ⟨a, rfl, .inr (.inr ⟨xs, ep, rd G2 H1 Le.refl rs2.sub, q2 _ G2 ad1 H1 .refl rs2 (iters_seq (vs := xs.map fun x => V.ref x.2.1) (by rw [List.length_map, List.length_map, List.length_map]; exact rk.len) (cv ra) fun G3 H3 g s => ⟨fun i hi => ⟨by simpa using hi, rd G3 H3 g s⟩, fun i x H' hi y => ?_, ⟨by simp, rd G3 H3 g s⟩⟩)⟩)⟩
        obtain ⟨rfl, k', b, u, h1, rfl⟩ := y
        exact ⟨rfl, by rw [List.getElem?_map, h1]; rfl⟩
      | _ => cases es
    · exact q2.elim
end

/-! ### ranges -/
def big62 : Int → Bool
  | .ofNat n => Nat.ble n 1000000000000
  | .negSucc n => Nat.ble n 1000000000000
theorem big62_eq {i : Int} (h : big62 i = true) : -(2 ^ 62) ≤ i ∧ i < 2 ^ 62 := by
  cases i with
  | ofNat n =>
    have h : Nat.ble n _ = true := h
    rw [Nat.ble_eq] at h
    have : Int.ofNat n = (n : Int) := rfl
    rw [this]
    omega
  | negSucc n =>
    have h : Nat.ble n _ = true := h
    rw [Nat.ble_eq] at h
    rw [Int.negSucc_eq]
    omega
theorem big62_of {i : Int} (h0 : 0 ≤ i) (h1 : i ≤ 1000000000000) : big62 i = true := by
  cases i with
  | ofNat n =>
    show Nat.ble n _ = true
    rw [Nat.ble_eq]
    have : Int.ofNat n = (n : Int) := rfl
    rw [this] at h1
    omega
  | negSucc n => rw [Int.negSucc_eq] at h0; omega
def rangeL (lo : Int) (n : Nat) : List PyData := (List.range n).map fun (i : Nat) => .int (lo + i)
def rangeC (lo c : Int) (n : Nat) : List PyData := (List.range n).map fun (i : Nat) => .int (lo + i * c)
/-- the number of turns of range(a, b, c) -/
def turnsC (a b c : Int) : Nat := if 0 < c then ((b - a + c - 1) / c).toNat else ((a - b - c - 1) / (-c)).toNat
section
variable {X : Cx} {Wx : WX} {a b e tg : Expr} {FAs : AF} {p pos : Pos}
theorem iters_range {C : Wd} {G : Hp} {ad : List Addr} {lo : Int} {n : Nat} : Iters C G ad (Itr lo n) ((rangeL lo n).map W.d) := by
  refine iters_seq (vs := (List.range n).map fun (i : Nat) => V.int (lo + i)) (by simp [rangeL]) (fun i w e => ?_) fun G1 H1 g s => ⟨fun i hi => (by simpa using hi : i < n), fun i x H' hi y => ?_, by simp [Itr]⟩
  · rw [List.getElem?_map] at e
    unfold rangeL at e
    rw [List.getElem?_map] at e
    cases h : (List.range n)[i]? with
    | none => rw [h] at e; cases e
    | some j => rw [h] at e; cases e; exact ⟨_, by rw [List.getElem?_map, h]; rfl, .d (.int _)⟩
  · obtain ⟨rfl, rfl⟩ := y
    have hi : i < n := by simpa using hi
    exact ⟨rfl, by rw [List.getElem?_map, List.getElem?_eq_getElem (by simpa using hi)]; simp⟩
theorem iters_rangeC {C : Wd} {G : Hp} {ad : List Addr} {lo c : Int} {n : Nat} : Iters C G ad (Itc lo c n) ((rangeC lo c n).map W.d) := by
  refine iters_seq (vs := (List.range n).map fun (i : Nat) => V.int (lo + i * c)) (by simp [rangeC]) (fun i w e => ?_) fun G1 H1 g s => ⟨fun i hi => (by simpa using hi : i < n), fun i x H' hi y => ?_, by simp [Itc]⟩
  · rw [List.getElem?_map] at e
    unfold rangeC at e
    rw [List.getElem?_map] at e
    cases h : (List.range n)[i]? with
    | none => rw [h] at e; cases e
    | some j => rw [h] at e; cases e; exact ⟨_, by rw [List.getElem?_map, h]; rfl, .d (.int _)⟩
  · obtain ⟨rfl, rfl⟩ := y
    have hi : i < n := by simpa using hi
    exact ⟨rfl, by rw [List.getElem?_map, List.getElem?_eq_getElem (by simpa using hi)]; simp⟩
def gRange1 (ws : List W) (st : Sto) : R (List W) := match ws with
  | [.d (.int j)] => if big62 j = true then .ok ((rangeL 0 j.toNat).map .d) st else .bad
  | _ => .bad
def gRange2 (ws : List W) (st : Sto) : R (List W) := match ws with
  | [.d (.int i), .d (.int j)] => if big62 i = true ∧ big62 j = true then .ok ((rangeL i (j - i).toNat).map .d) st else .bad
  | _ => .bad
theorem fi_range1 (hg : Gl X "range") (hm : X.mg "range" = none) (ha : FA X Wx [a] FAs) (hs : starEach [a] X.env = [(false, eval a X.env)] := by rfl) : FI X Wx tg (.Call (.Name "range" p) [a] [] pos) (fun ρ st => (FAs ρ st).bind gRange1) := by
  obtain ⟨t, q, k, _⟩ := ha
  refine ⟨_, pi_range1 hg hm q hs, fun σ H G ad ρ st Q rs rl h => ?_⟩
  refine k σ H G ad ρ st _ rs rl (Post.bind h fun ws st1 vs G1 ad1 H1 ex s1 rs1 rv q1 => ?_)
  clear ex
  unfold gRange1 at q1
  split at q1
  · split at q1
    · rename_i j hj
      obtain ⟨b1, b2⟩ := big62_eq hj
      cases rv with | cons r1 rt => cases rt; cases r1 with | d r1 => cases r1; exact ⟨j, rfl, b1, b2, q1 _ G1 ad1 H1 .refl rs1 iters_range⟩
    · exact q1.elim
  · exact q1.elim
theorem fi_range2 (hg : Gl X "range") (hm : X.mg "range" = none) (ha : FA X Wx [a, b] FAs) (hs : starEach [a, b] X.env = [(false, eval a X.env), (false, eval b X.env)] := by rfl) (hs2 : starEach [b] X.env = [(false, eval b X.env)] := by rfl) : FI X Wx tg (.Call (.Name "range" p) [a, b] [] pos) (fun ρ st => (FAs ρ st).bind gRange2) := by
  obtain ⟨t, q, k, _⟩ := ha
  refine ⟨_, pi_range2 hg hm q hs hs2, fun σ H G ad ρ st Q rs rl h => ?_⟩
  refine k σ H G ad ρ st _ rs rl (Post.bind h fun ws st1 vs G1 ad1 H1 ex s1 rs1 rv q1 => ?_)
  clear ex
  unfold gRange2 at q1
  split at q1
  · split at q1
    · rename_i i j hj
      obtain ⟨b1, b2⟩ := big62_eq hj.1
      obtain ⟨b3, b4⟩ := big62_eq hj.2
      cases rv with | cons r1 rt => cases rt with | cons r2 rt => cases rt; cases r1 with | d r1 => cases r1; cases r2 with | d r2 => cases r2; exact ⟨i, j, rfl, ⟨b1, b2, b3, b4⟩, q1 _ G1 ad1 H1 .refl rs1 iters_range⟩
    · exact q1.elim
  · exact q1.elim
end
end Fx

namespace Fx
open PySem PySem.Spec L2
open PyProof.Rows hiding St

def gRange3 (ws : List W) (st : Sto) : R (List W) := match ws with
  | [.d (.int i), .d (.int j), .d (.int c)] => if c ≠ 0 ∧ c.natAbs < 1073741824 ∧ Builtin.Range.small i j c = true ∧ 0 ≤ Builtin.Range.rangeSize i j c then .ok ((rangeC i c (Builtin.Range.rangeSize i j c).toNat).map .d) st else .bad
  | _ => .bad
section
variable {X : Cx} {Wx : WX} {a b c e tg : Expr} {FAs : AF} {Fe : EF} {p pos : Pos}
theorem fi_range3 (hg : Gl X "range") (hm : X.mg "range" = none) (ha : FA X Wx [a, b, c] FAs) (hs : starEach [a, b, c] X.env = (false, eval a X.env) :: starEach [b, c] X.env := by rfl) (hpl : (backTo pos (starEach [b, c] X.env)).any (·.1) = false := by rfl) :
    FI X Wx tg (.Call (.Name "range" p) [a, b, c] [] pos) (fun ρ st => (FAs ρ st).bind gRange3) := by
  obtain ⟨t, q, k, _⟩ := ha
  refine ⟨_, pi_range3 hg hm q hs hpl, fun σ H G ad ρ st Q rs rl h => ?_⟩
  refine k σ H G ad ρ st _ rs rl (Post.bind h fun ws st1 vs G1 ad1 H1 ex s1 rs1 rv q1 => ?_)
  clear ex
  unfold gRange3 at q1
  split at q1
  · split at q1
    · rename_i i j c hc
      cases rv with | cons r1 rt => cases rt with | cons r2 rt => cases rt with | cons r3 rt => cases rt; cases r1 with | d r1 => cases r1; cases r2 with | d r2 => cases r2; cases r3 with | d r3 => cases r3; exact ⟨i, j, c, _, rfl, ⟨hc.1, hc.2.1, hc.2.2.1, (Int.toNat_of_nonneg hc.2.2.2).symm⟩, q1 _ G1 ad1 H1 .refl rs1 iters_rangeC⟩
    · exact q1.elim
  · exact q1.elim

/-! ### zip of two lists or two tuples -/
def packZ : List PyData → List PyData → List W
  | x :: xs, y :: ys => .d (.tuple [x, y]) :: packZ xs ys
  | _, _ => []
theorem packZ_len : ∀ (xs ys : List PyData), (packZ xs ys).length = min xs.length ys.length
  | [], _ => by simp [packZ]
  | _ :: _, [] => by simp [packZ]
  | x :: xs, y :: ys => by simp [packZ, packZ_len xs ys]
theorem packZ_get : ∀ (xs ys : List PyData) (i : Nat) (w : W), (packZ xs ys)[i]? = some w → ∃ x y, xs[i]? = some x ∧ ys[i]? = some y ∧ w = .d (.tuple [x, y])
  | [], _, i, w, e => by simp [packZ] at e
  | _ :: _, [], i, w, e => by simp [packZ] at e
  | x :: xs, y :: ys, 0, w, e => by simp [packZ] at e; exact ⟨x, y, rfl, rfl, e.symm⟩
  | x :: xs, y :: ys, i + 1, w, e => by
    obtain ⟨x', y', h1, h2, h3⟩ := packZ_get xs ys i w (by simpa [packZ] using e)
    exact ⟨x', y', by simpa using h1, by simpa using h2, h3⟩
def gZip (ws : List W) (st : Sto) : R (List W) := match frzs ws st with
  | some ([.list xs, .list ys], st) => .ok (packZ xs ys) st
  | some ([.tuple xs, .tuple ys], st) => .ok (packZ xs ys) st
  | _ => .bad
theorem iters_zip {C : Wd} {G : Hp} {ad : List Addr} {J : It} {n : Nat} {ws : List W} {Cd : Hp → Prop} (hn : ws.length = n) (cd : ∀ G1 H1, Le G G1 → Le G1 H1 → Cd H1)
    (go : ∀ H, Cd H → (∀ i, i < n → J.go i H) ∧ J.stop n H)
    (yl : ∀ H i w v H', Cd H → ws[i]? = some w → J.yld i H v H' → ∃ T x y p q, v = .ref T ∧ H T = none ∧ H' = upd H T (.tup [x, y]) ∧ w = .d (.tuple [p, q]) ∧ Dv C G x p ∧ Dv C G y q) : Iters C G ad J ws := by
  intro G1 ad1 H1 g p s
  obtain ⟨h1, h2⟩ := go H1 (cd G1 H1 g s)
  refine ⟨fun i w e => ⟨h1 i (by rw [← hn]; exact (List.getElem?_eq_some_iff.mp e).1), fun x H' y => ?_⟩, by rw [hn]; exact h2⟩
  obtain ⟨T, x', y', a, b, rfl, hT, rfl, rfl, da, db⟩ := yl H1 i w x H' (cd G1 H1 g s) e y
  refine ⟨upd G1 T (.tup [x', y']), fun st rs => ⟨Step.newG rs hT, rs.newG hT, .d (.tup (SqT.of upd_same) ?_)⟩⟩
  have le : Le G1 (upd G1 T (.tup [x', y'])) := Le.upd (rs.sub.none hT)
  exact .cons (da.le (g.trans le)) (.cons (db.le (g.trans le)) .nil)
theorem gZip_inv {G : Hp} {ad : List Addr} {H : Hp} {σ : L2.St} {vs : List V} {ws : List W} {st : Sto} {rel : Hp → List Addr → It → List W → Prop} {Q : It → Hp → Prop} (rs : RepS (wd X) G ad st H) (rv : WvAll (wd X) G ad vs ws) (h : Post X Wx G ad H σ rel (gZip ws st) Q) :
    ∃ G' st' a b us zs xs ys, vs = [.ref a, .ref b] ∧ Step G ad H G' ad H ∧ RepS (wd X) G' ad st' H ∧ DvAll (wd X) G' us xs ∧ DvAll (wd X) G' zs ys ∧ ((SqL X.K G' a us ∧ SqL X.K G' b zs) ∨ (SqT X.K G' a us ∧ SqT X.K G' b zs)) ∧ Post X Wx G' ad H σ rel (.ok (packZ xs ys) st') Q := by
  unfold gZip at h
  split at h
  · rename_i xs ys st' e
    obtain ⟨G', s', rs', d'⟩ := frzs_ok rs rv e
    cases d' with | cons d1 dt => cases dt with | cons d2 dt => cases dt; cases d1 with | lst h1 r1 => cases d2 with | lst h2 r2 => exact ⟨G', st', _, _, _, _, xs, ys, rfl, s', rs', r1, r2, .inl ⟨h1, h2⟩, h.mono s'⟩
  · rename_i xs ys st' e
    obtain ⟨G', s', rs', d'⟩ := frzs_ok rs rv e
    cases d' with | cons d1 dt => cases dt with | cons d2 dt => cases dt; cases d1 with | tup h1 r1 => cases d2 with | tup h2 r2 => exact ⟨G', st', _, _, _, _, xs, ys, rfl, s', rs', r1, r2, .inr ⟨h1, h2⟩, h.mono s'⟩
  · exact h.elim
theorem fi_zip {e2 : Expr} {tpos : Pos} {elts : List Expr} {kk : Nat} (hg : Gl X "zip") (hm : X.mg "zip" = none) (ha : FA X Wx [e, e2] FAs) (hs : starEach [e, e2] X.env = (false, eval e X.env) :: starEach [e2] X.env := by rfl) (hpl : (backTo pos (starEach [e2] X.env)).any (·.1) = false := by rfl) :
    FI X Wx (.Tuple elts kk tpos) (.Call (.Name "zip" p) [e, e2] [] pos) (fun ρ st => (FAs ρ st).bind gZip) := by
  obtain ⟨t, q, k, _⟩ := ha
  refine ⟨_, RZ.pi_zipA hg hm q hs hpl, fun σ H G ad ρ st Q rs rl h => ?_⟩
  refine k σ H G ad ρ st _ rs rl (Post.bind h fun ws st1 vs G1 ad1 H1 _ s1 rs1 rv q1 => ?_)
  obtain ⟨G2, st2, a, b, us, zs, xs, ys, rfl, s2, rs2, r1, r2, hx, q2⟩ := gZip_inv rs1 rv q1
  have l1 := r1.length
  have l2 := r2.length
  have pick : ∀ (i : Nat) (w : W) (x y : V), (packZ xs ys)[i]? = some w → us[i]? = some x → zs[i]? = some y → ∃ p q, w = .d (.tuple [p, q]) ∧ Dv (wd X) G2 x p ∧ Dv (wd X) G2 y q := fun i w x y e e1 e2 => by
    obtain ⟨p, q, h1, h2, rfl⟩ := packZ_get xs ys i w e
    obtain ⟨x', g1, d1⟩ := r1.get h1
    obtain ⟨y', g2, d2⟩ := r2.get h2
    rw [e1] at g1; cases g1
    rw [e2] at g2; cases g2
    exact ⟨p, q, rfl, d1, d2⟩
  rcases hx with ⟨h1, h2⟩ | ⟨h1, h2⟩
  · have f1 : ∀ G3 H3, Le G2 G3 → Le G3 H3 → SqL X.K H3 a us ∧ SqL X.K H3 b zs := fun G3 H3 g s => ⟨Le.sqL s (Le.sqL g h1), Le.sqL s (Le.sqL g h2)⟩
    refine ⟨a, b, us, zs, rfl, .inl ⟨(f1 G2 H1 Le.refl rs2.sub).1, (f1 G2 H1 Le.refl rs2.sub).2, q2 _ G2 ad1 H1 .refl rs2 (iters_zip (n := min us.length zs.length) (Cd := fun H => SqL X.K H a us ∧ SqL X.K H b zs) (by rw [packZ_len, l1, l2]) f1 (fun H c => ⟨fun i hi => ⟨us, zs, us[i]'(by omega), zs[i]'(by omega), c.1, c.2, List.getElem?_eq_getElem (by omega), List.getElem?_eq_getElem (by omega)⟩, ⟨us, zs, c.1, c.2, by omega⟩⟩) fun H i w v H' c e y => ?_)⟩⟩
    obtain ⟨T, x, y, rfl, hT, rfl, e1, e2⟩ := y
    obtain ⟨p, q, rfl, d1, d2⟩ := pick i w x y e (e1 us c.1) (e2 zs c.2)
    exact ⟨T, x, y, p, q, rfl, hT, rfl, rfl, d1, d2⟩
  · have f1 : ∀ G3 H3, Le G2 G3 → Le G3 H3 → SqT X.K H3 a us ∧ SqT X.K H3 b zs := fun G3 H3 g s => ⟨Le.sqT s (Le.sqT g h1), Le.sqT s (Le.sqT g h2)⟩
    refine ⟨a, b, us, zs, rfl, .inr ⟨(f1 G2 H1 Le.refl rs2.sub).1, (f1 G2 H1 Le.refl rs2.sub).2, q2 _ G2 ad1 H1 .refl rs2 (iters_zip (n := min us.length zs.length) (Cd := fun H => SqT X.K H a us ∧ SqT X.K H b zs) (by rw [packZ_len, l1, l2]) f1 (fun H c => ⟨fun i hi => ⟨us, zs, us[i]'(by omega), zs[i]'(by omega), c.1, c.2, List.getElem?_eq_getElem (by omega), List.getElem?_eq_getElem (by omega)⟩, ⟨us, zs, c.1, c.2, by omega⟩⟩) fun H i w v H' c e y => ?_)⟩⟩
    obtain ⟨T, x, y, rfl, hT, rfl, e1, e2⟩ := y
    obtain ⟨p, q, rfl, d1, d2⟩ := pick i w x y e (e1 us c.1) (e2 zs c.2)
    exact ⟨T, x, y, p, q, rfl, hT, rfl, rfl, d1, d2⟩

/-! ### d.items() -/
def iItemsF (a : EF) : AF := fun ρ st => (a ρ st).bind fun w st => match frz w st with | none => .bad | some (x, st) => match x with | .dict m => .ok (m.map fun p => .d (.tuple [p.1, p.2])) st | _ => .bad
theorem items_src {C : Wd} {elts : List Expr} {kk : Nat} {tpos : Pos} {d it : Addr} {xs : Ents} {ep : Nat} (hd0 : d ≠ it) :
    PairSrc C.P C.w C.K (.Tuple elts kk tpos) it [it] xs.length (fun i h => ∃ ok ov, IsItemIter h it d i xs.length ep ok ov) (fun H => H d = some (dicO C d xs ep)) (fun i => (xs[i]?.map fun x => V.ref x.2.1).getD .non) (fun i => (xs[i]?.map fun x => x.2.2).getD .non) where
  mem := by simp
  obj := fun i h st b hb => by
    obtain rfl : b = it := by simpa using hb
    obtain ⟨ok, ov, e⟩ := st
    exact ⟨_, e, fun v z => nomatch z⟩
  keep := fun i h h' st k => let ⟨ok, ov, e⟩ := st; ⟨ok, ov, k it (by simp) _ e⟩
  go := by
    intro X pins s σ H hP hw hK hh Iv hf cd i hi st
    obtain ⟨P, w, K⟩ := C
    simp only at hP hw hK
    subst hP hw hK
    obtain ⟨ok, ov, he⟩ := st
    obtain ⟨es, vs, hm, hsz, re, hs, hent⟩ := dic_raw Iv cd
    have Gn := GoesN.rawItems (prog := X.prog) (w := X.w) (elts := elts) (x1 := kk) (pos := tpos) hh it d hd0 es ep
    refine ⟨_, _, _, _, _, hsz, Gn, fun b hb => hb, ⟨⟨ok, ov, by rw [hsz]; exact he⟩, hm⟩, fun h' _ st' => by rw [← hsz]; exact st'.1, fun v h' hlt hY => ?_⟩
    obtain ⟨T, hi', rfl, hT, ht⟩ := hY
    obtain ⟨k, b, u, u', hx, hk, hv, r⟩ := hent i hi'
    refine ⟨T, _, _, rfl, hT, ht, ?_, ?_⟩
    · rw [hx]; rw [hk]; rfl
    · rw [hx, hv]; exact r
  self := fun A i s Q E st h => let ⟨_, _, e⟩ := st; wpAny_pyIter_itemiter e h
def iItemsX (C : Wd) (td : TE) : TI := fun σ H R => td σ H fun x H1 => ∃ d xs ep, x = .ref d ∧ H1 d = some (dicO C d xs ep) ∧ R (ItP xs.length (fun H => H d = some (dicO C d xs ep)) (fun i => (xs[i]?.map fun x => V.ref x.2.1).getD .non) (fun i => (xs[i]?.map fun x => x.2.2).getD .non)) H1
theorem pi_itemsX {td : TE} {apos cpos tpos : Pos} {elts : List Expr} {kk : Nat} (he : PE X e td) (hbase : attributeBase e "items" X.env (eval e X.env) = eval e X.env := by rfl) (hline : (apos.endLine == cpos.line) = true := by rfl) :
    PI X (.Tuple elts kk tpos) (.Call (.Attribute e "items" apos) [] [] cpos) (iItemsX (wd X) td) := by
  refine ⟨fun pins s σ H R I h => ?_⟩
  refine wpAny_Call_method (T := "dict") (id := "dict.items") hbase rfl hline F.plainAttrs_dict F.slot_dict_items F.type_dict_items (thn (he.run pins s σ H _ I h) fun u s1 q1 => ?_)
  obtain ⟨x, H1, I1, rx, d, xs, ep, rfl, hd, q⟩ := q1
  obtain rfl : u = Value.ref d := rx
  obtain ⟨es, vs, hm, hsz, re, hs, hent⟩ := dic_raw I1 hd
  have ty : s1.TypeIs (.ref d) "dict" := hm.typeIs
  refine ⟨ty, fun a e2 => ?_, ?_⟩
  · cases e2
    obtain ⟨o, ho, hx, _⟩ := hm
    exact ⟨o, ho, hx.2.1⟩
  have I2 : L2.Inv X pins σ H1 { s1 with heap := s1.heap.push { cls := .type "dict_items", data := .fields #[.ref d] } } := I1.kept (t' := s1.toks) fun b ob q => Heap.get?_push_of_some _ q
  have hne : d ≠ (s1.heap.push { cls := .type "dict_items", data := .fields #[.ref d] }).objs.size := by
    obtain ⟨o, ho, _⟩ := hm
    have := Heap.lt_size ho
    rw [Heap.size_push]
    exact Nat.ne_of_lt (Nat.lt_succ_of_lt this)
  have fin : wpAny (model X.prog X.w) X.A (pyIter (.ref s1.heap.objs.size)) (PIE X pins σ (.Tuple elts kk tpos) R) X.xe { s1 with heap := s1.heap.push { cls := .type "dict_items", data := .fields #[.ref d] } } := by
    refine wpAny_pyIter_items_raw (d := d) ⟨_, Heap.get?_push_size _ rfl, rfl, rfl⟩ (hm.at fun o q => Heap.get?_push_of_some _ q) (pi_one (tk := s1.toks) I2 _ (turn_pair (items_src (C := wd X) hne)) ⟨.none, .none, ?_⟩ q)
    rw [hsz]
    exact Heap.get?_push_size _ rfl
  show wpAny _ _ (callWith cpos (.builtin "dict.items") [.ref d] [] []) _ X.xe s1
  exact method_meetsIn F.slot_dict_items F.entry_dict_items rfl (PySem.evalArgs_none ⟨rfl, ty, F.args_dict_items_1 _, _, meets_dict_items_raw d hs, ⟨es, ep, hm⟩, fin⟩)
theorem fi_items {apos cpos tpos : Pos} {elts : List Expr} {kk : Nat} (he : FE X Wx e Fe) (hbase : attributeBase e "items" X.env (eval e X.env) = eval e X.env := by rfl) (hline : (apos.endLine == cpos.line) = true := by rfl) :
    FI X Wx (.Tuple elts kk tpos) (.Call (.Attribute e "items" apos) [] [] cpos) (iItemsF Fe) := by
  obtain ⟨t, q, k⟩ := he
  refine ⟨_, pi_itemsX q hbase hline, fun σ H G ad ρ st Q rs rl h => ?_⟩
  refine k σ H G ad ρ st _ rs rl (Post.bind h fun w st1 v G1 ad1 H1 _ s1 rs1 rv q1 => ?_)
  obtain ⟨x, st2, G2, _, s2, rs2, d2, q2⟩ := post_frzI rs1 rv q1
  split at q2
  · rename_i m
    cases d2 with
    | @dic a xs ep kvs hx rk nd =>
      refine ⟨a, xs, ep, rfl, rs2.sub _ _ hx, q2 _ G2 ad1 H1 .refl rs2 (iters_pair (by rw [List.length_map, List.length_map, rk.len]) (fun G3 H3 g s => s _ _ (g _ _ hx)) fun i w e => ?_)⟩
      have pick : ∀ {xs : Ents} {kvs : Kvs} (i : Nat) (p : NestedKey × PyData), DvKv (wd X) G2 xs kvs → kvs[i]? = some p → ∃ x, xs[i]? = some x ∧ Dv (wd X) G2 (.ref x.2.1) p.1.data ∧ Dv (wd X) G2 x.2.2 p.2 := by
        intro xs kvs i p r e
        induction xs generalizing kvs i with
        | nil => cases r; simp at e
        | cons y ys ih =>
          cases r with
          | cons h1 h2 h3 h4 =>
            cases i with
            | zero => simp at e; subst e; exact ⟨_, rfl, h1, h3⟩
            | succ i => obtain ⟨x, g1, g2⟩ := ih i h4 (by simpa using e); exact ⟨x, by simpa using g1, g2⟩
      rw [List.getElem?_map, List.getElem?_map] at e
      cases ek : kvs[i]? with
      | none => rw [ek] at e; cases e
      | some p =>
        rw [ek] at e
        cases e
        obtain ⟨x, g1, g2, g3⟩ := pick i p rk ek
        exact ⟨_, _, rfl, by rw [g1]; exact g2, by rw [g1]; exact g3⟩
  · exact q2.elim
end
end Fx

namespace Fx
open PySem PySem.Spec L2
open PyProof.Rows hiding St

/-! ### comprehensions -/
abbrev W0 : WX := fun _ _ _ _ => False
def wipeL (ρ : Lv) : List Nat → Lv
  | [] => ρ
  | v :: vs => (wipeL ρ vs).set v none
theorem wipeL_rel {C : Wd} {G : Hp} {ad : List Addr} {ρ : Lv} {σ : L2.St} (r : RepL C G ad ρ σ) : ∀ vs : List Nat, RepL C G ad (wipeL ρ vs) (wipe σ vs)
  | [] => r
  | v :: vs => by
    have ih := wipeL_rel r vs
    unfold wipeL wipe
    refine ⟨by simp [ih.1], fun j w e => ?_⟩
    by_cases hj : v = j
    · subst hj
      by_cases hl : v < (wipeL ρ vs).length
      · rw [List.getElem?_set_self hl] at e; cases e
      · rw [List.getElem?_eq_none (by simpa using hl)] at e; cases e
    · rw [List.getElem?_set_ne hj] at e
      obtain ⟨x, e1, q⟩ := ih.2 j w e
      exact ⟨x, by rw [List.getElem?_set_ne hj]; exact e1, q⟩
theorem wipe_at {σ : L2.St} : ∀ {vs : List Nat} {i : Nat}, (i ∈ vs → i < σ.length → (wipe σ vs)[i]? = some none) ∧ (i ∉ vs → (wipe σ vs)[i]? = σ[i]?)
  | [], i => ⟨fun h => (List.not_mem_nil h).elim, fun _ => rfl⟩
  | v :: vs, i => by
    have ih := wipe_at (σ := σ) (vs := vs) (i := i)
    unfold wipe
    refine ⟨fun h hl => ?_, fun h => ?_⟩
    · by_cases hv : v = i
      · subst hv; rw [List.getElem?_set_self (by rw [wipe_length]; exact hl)]
      · rw [List.getElem?_set_ne hv]
        exact ih.1 (by rcases List.mem_cons.mp h with z | z; exact absurd z.symm hv; exact z) hl
    · rw [List.getElem?_set_ne (fun z => h (by simp [z]))]
      exact ih.2 fun z => h (List.mem_cons_of_mem _ z)
theorem wipe_but {σ σ' : L2.St} {sl vs : List Nat} (b : But sl σ σ') (h : ∀ i ∈ sl, i ∈ vs) : wipe σ' vs = wipe σ vs := by
  apply List.ext_getElem?
  intro i
  by_cases hi : i ∈ vs
  · by_cases hl : i < σ.length
    · rw [(wipe_at (σ := σ')).1 hi (by rw [b.1]; exact hl), (wipe_at (σ := σ)).1 hi hl]
    · rw [List.getElem?_eq_none (by rw [wipe_length, b.1]; omega), List.getElem?_eq_none (by rw [wipe_length]; omega)]
  · rw [(wipe_at (σ := σ')).2 hi, (wipe_at (σ := σ)).2 hi]
    exact b.2 i fun z => hi (h i z)
theorem wipe_wipe {σ : L2.St} {vs : List Nat} : wipe (wipe σ vs) vs = wipe σ vs := by
  apply List.ext_getElem?
  intro i
  by_cases hi : i ∈ vs
  · by_cases hl : i < σ.length
    · rw [(wipe_at (σ := wipe σ vs)).1 hi (by rw [wipe_length]; exact hl), (wipe_at (σ := σ)).1 hi hl]
    · rw [List.getElem?_eq_none (by rw [wipe_length, wipe_length]; omega), List.getElem?_eq_none (by rw [wipe_length]; omega)]
  · exact (wipe_at (σ := wipe σ vs)).2 hi

/-- the items made: all data, or all handles -/
def datas : List W → Option (List PyData)
  | [] => some []
  | .d x :: ws => (datas ws).map fun xs => x :: xs
  | _ => none
def handles : List W → Option (List Nat)
  | [] => some []
  | .h n :: ws => (handles ws).map fun xs => n :: xs
  | _ => none
def packW (ws : List W) : Option W := match datas ws with
  | some xs => some (.d (.list xs))
  | none => (handles ws).map .hs
theorem datas_rel {C : Wd} {G : Hp} {ad : List Addr} : ∀ {vs : List V} {ws : List W} {xs : List PyData}, WvAll C G ad vs ws → datas ws = some xs → DvAll C G vs xs
  | _, _, _, .nil, e => by cases e; exact .nil
  | _, _, _, .cons r t, e => by
    cases r with
    | d r =>
      obtain ⟨ys, h, rfl⟩ := Option.map_eq_some_iff.mp e
      exact .cons r (datas_rel t h)
    | h _ => cases e
    | hs _ _ => cases e
    | fn => cases e
theorem handles_rel {C : Wd} {G : Hp} {ad : List Addr} : ∀ {vs : List V} {ws : List W} {xs : List Nat}, WvAll C G ad vs ws → handles ws = some xs → Paired (fun v n => ∃ b, ad[n]? = some b ∧ v = V.ref b) vs xs
  | _, _, _, .nil, e => by cases e; exact .nil
  | _, _, _, .cons r t, e => by
    cases r with
    | h r =>
      obtain ⟨ys, h, rfl⟩ := Option.map_eq_some_iff.mp e
      exact .cons ⟨_, r, rfl⟩ (handles_rel t h)
    | d _ => cases e
    | hs _ _ => cases e
    | fn => cases e
def lcF (g : GF) (T : TF) (e : EF) (ρ : Lv) : List W → List W → Sto → R W
  | [], acc, st => match packW acc with | some w => .ok w st | none => .bad
  | w :: ws, acc, st => match g w ρ st with
    | none => .bad
    | some ρ1 => match T ρ1 st with
      | .ok true st1 => match e ρ1 st1 with
        | .ok y st2 => lcF g T e ρ ws (acc ++ [y]) st2
        | _ => .bad
      | .ok false st1 => lcF g T e ρ ws acc st1
      | _ => .bad
def cLc (it : AF) (own : List Nat) (g : GF) (T : TF) (e : EF) : EF := fun ρ st => (it ρ st).bind fun ws st => if ws.length ≤ sizeLine then lcF g T e (wipeL ρ own) ws [] st else .bad
def tYesF : TF := fun _ st => .ok true st

/-- a block's judgements hold at every start of the block -/
abbrev Blk (X : Cx) (scope : Scope) (p : Cx → Prop) : Prop := ∀ (s : Shared) (H : Hp) (C : Addr) (cl : List (Str × Addr)) (fp : List Addr), p (X.blk s H scope (compEnvC scope cl C X.env) fp)
section
variable {X : Cx} {scope : Scope} {elt tg c : Expr} {Fe : EF} {T : TF} {g : GF} {sl : List Nat}
theorem blk_e (h : Blk X scope fun Y => FE Y W0 elt Fe) : ∃ te, (Blk X scope fun Y => PE Y elt te) ∧ ∀ σ H G ad ρ st Q, RepS (wd X) G ad st H → RepL (wd X) G ad ρ σ → Post X W0 G ad H σ (relW X) (Fe ρ st) Q → te σ H Q := by
  refine ⟨fun σ H Q => ∀ (s : Shared) (H0 : Hp) (C : Addr) (cl : List (Str × Addr)) (fp : List Addr), Classical.choose (h s H0 C cl fp) σ H Q, fun s H0 C cl fp => ⟨fun pins s1 σ H Q I q => (Classical.choose_spec (h s H0 C cl fp)).1.run pins s1 σ H Q I (q s H0 C cl fp)⟩, fun σ H G ad ρ st Q rs rl hp s H0 C cl fp => ?_⟩
  exact (Classical.choose_spec (h s H0 C cl fp)).2 σ H G ad ρ st Q rs rl hp
def FTs (X : Cx) (Wx : WX) (ifs : List Expr) (F : TF) : Prop := ∃ t : TT, PTs X ifs t ∧ ∀ σ H G ad ρ st Q, RepS (wd X) G ad st H → RepL (wd X) G ad ρ σ → Post X Wx G ad H σ relB (F ρ st) Q → t σ H Q
theorem fts_nil {Wx : WX} : FTs X Wx [] tYesF := ⟨_, pts_nil, fun σ H G ad ρ st Q rs rl h => h _ G ad H .refl rs rfl⟩
theorem fts_one {Wx : WX} (h : FT X Wx c T) : FTs X Wx [c] T := let ⟨t, p, k⟩ := h; ⟨t, pts_one p, k⟩
theorem blk_t {ifs : List Expr} (h : Blk X scope fun Y => FTs Y W0 ifs T) : ∃ tt, (Blk X scope fun Y => PTs Y ifs tt) ∧ ∀ σ H G ad ρ st Q, RepS (wd X) G ad st H → RepL (wd X) G ad ρ σ → Post X W0 G ad H σ relB (T ρ st) Q → tt σ H Q := by
  refine ⟨fun σ H Q => ∀ (s : Shared) (H0 : Hp) (C : Addr) (cl : List (Str × Addr)) (fp : List Addr), Classical.choose (h s H0 C cl fp) σ H Q, fun s H0 C cl fp => ⟨fun pins s1 σ H Q I q => (Classical.choose_spec (h s H0 C cl fp)).1.run pins s1 σ H Q I (q s H0 C cl fp)⟩, fun σ H G ad ρ st Q rs rl hp s H0 C cl fp => ?_⟩
  exact (Classical.choose_spec (h s H0 C cl fp)).2 σ H G ad ρ st Q rs rl hp
theorem blk_g (h : Blk X scope fun Y => FG Y tg g sl) : ∃ tg', (Blk X scope fun Y => PG Y tg tg') ∧ ∀ v w σ H G ad ρ st ρ' Q, RepS (wd X) G ad st H → RepL (wd X) G ad ρ σ → Wv (wd X) G ad v w → g w ρ st = some ρ' → (∀ σ', But sl σ σ' → RepL (wd X) G ad ρ' σ' → Q σ' H) → tg' v σ H Q := by
  refine ⟨fun v σ H Q => ∀ (s : Shared) (H0 : Hp) (C : Addr) (cl : List (Str × Addr)) (fp : List Addr), Classical.choose (h s H0 C cl fp) v σ H Q, fun s H0 C cl fp => ⟨fun pins s1 σ H v u Q I r q => (Classical.choose_spec (h s H0 C cl fp)).1.run pins s1 σ H v u Q I r (q s H0 C cl fp)⟩, fun v w σ H G ad ρ st ρ' Q rs rl rv e hp s H0 C cl fp => ?_⟩
  exact (Classical.choose_spec (h s H0 C cl fp)).2 v w σ H G ad ρ st ρ' Q rs rl rv e hp
end
theorem WvAll.append {C : Wd} {G : Hp} {ad : List Addr} : ∀ {vs us : List V} {ws zs : List W}, WvAll C G ad vs ws → WvAll C G ad us zs → WvAll C G ad (vs ++ us) (ws ++ zs)
  | _, _, _, _, .nil, s => s
  | _, _, _, _, .cons h r, s => .cons h (WvAll.append r s)
theorem WvAll.step {C : Wd} {G : Hp} {ad : List Addr} {H : Hp} {G' : Hp} {ad' : List Addr} {H' : Hp} (s : Step G ad H G' ad' H') {vs : List V} {ws : List W} (h : WvAll C G ad vs ws) : WvAll C G' ad' vs ws := Paired.imp' (fun _ _ r => Wv.step s r) h
/-- a tracked thing that is neither frozen nor in the store may be put in -/
theorem RepS.other {C : Wd} {G : Hp} {ad : List Addr} {st : Sto} {H : Hp} (rs : RepS C G ad st H) {p : Addr} {o : HO} (g : G p = none) (n : p ∉ ad) : RepS C G ad st (upd H p o) := by
  refine ⟨fun b u e => ?_, rs.len, rs.nd, fun k m a e1 e2 => ?_⟩
  · have hb : b ≠ p := ne_of_none e g
    rw [upd_ne hb]; exact rs.sub b u e
  · have hne : a ≠ p := fun z => n (by rw [← z]; exact List.mem_of_getElem? e2)
    have q := rs.obj k m a e1 e2
    obtain ⟨lv, c⟩ := m
    cases lv with
    | true =>
      cases c with
      | lst ds => obtain ⟨q0, vs, q1, q2⟩ := q; exact ⟨q0, vs, by rw [upd_ne hne]; exact q1, q2⟩
      | dic kvs => obtain ⟨q0, xs, ep, q1, q2, q3⟩ := q; exact ⟨q0, xs, ep, by rw [upd_ne hne]; exact q1, q2, q3⟩
    | false => cases c <;> exact q
/-- .. taken out again -/
theorem RepS.freezeAt {C : Wd} {G : Hp} {ad : List Addr} {st : Sto} {H : Hp} (rs : RepS C G ad st H) {p : Addr} {o : HO} (h : H p = some o) (g : G p = none) (n : p ∉ ad) : RepS C (upd G p o) ad st H := by
  have le : Le G (upd G p o) := Le.upd g
  refine ⟨fun b u e => ?_, rs.len, rs.nd, fun k m a e1 e2 => ?_⟩
  · by_cases hb : b = p
    · subst hb; rw [upd_same] at e; cases e; exact h
    · rw [upd_ne hb] at e; exact rs.sub b u e
  · have hne : a ≠ p := fun z => n (by rw [← z]; exact List.mem_of_getElem? e2)
    have q := rs.obj k m a e1 e2
    obtain ⟨lv, c⟩ := m
    cases lv with
    | true =>
      cases c with
      | lst ds => obtain ⟨q0, vs, q1, q2⟩ := q; exact ⟨by rw [upd_ne hne]; exact q0, vs, q1, q2.le le⟩
      | dic kvs => obtain ⟨q0, xs, ep, q1, q2, q3⟩ := q; exact ⟨by rw [upd_ne hne]; exact q0, xs, ep, q1, q2.le le, q3⟩
    | false =>
      cases c with
      | lst ds => obtain ⟨vs, q1, q2⟩ := q; exact ⟨vs, le _ _ q1, q2.le le⟩
      | dic kvs => obtain ⟨xs, ep, q1, q2, q3⟩ := q; exact ⟨xs, ep, le _ _ q1, q2.le le, q3⟩
section
variable {X : Cx} {Wx : WX} {elt tg iter : Expr} {ifs : List Expr} {scope : Scope} {own : List (Str × Nat)} {FI' : AF} {g : GF} {sl : List Nat} {T : TF} {Fe : EF} {pos : Pos}
theorem Step.fresh {G1 : Hp} {ad1 : List Addr} {H1 : Hp} {G2 : Hp} {ad2 : List Addr} {H2 : Hp} {D : Addr} {o : HO} (s : Step G1 ad1 H1 G2 ad2 H2) (h : H1 D = none) : Step G1 ad1 H1 G2 ad2 (upd H2 D o) :=
  ⟨s.gle, s.adp, fun b u e n => by rw [upd_ne (ne_of_none e h)]; exact s.keep b u e n, s.new, s.gnew⟩
theorem Step.freshG {G1 : Hp} {ad1 : List Addr} {H1 : Hp} {G2 : Hp} {ad2 : List Addr} {H2 : Hp} {D : Addr} {o : HO} (s : Step G1 ad1 H1 G2 ad2 H2) (h : H1 D = none) (g : G2 D = none) : Step G1 ad1 H1 (upd G2 D o) ad2 H2 :=
  ⟨s.gle.trans (Le.upd g), s.adp, s.keep, s.new, fun b u e => by
    by_cases hb : b = D
    · subst hb; exact .inr (.inl h)
    · rw [upd_ne hb] at e; exact s.gnew b u e⟩
/-- an object of one's own stays through a step -/
theorem Step.mine {G : Hp} {ad : List Addr} {H : Hp} {G' : Hp} {ad' : List Addr} {H' : Hp} (s : Step G ad H G' ad' H') {D : Addr} {o : HO} (h : H D = some o) (g : G D = none) (n : D ∉ ad) : H' D = some o ∧ G' D = none ∧ D ∉ ad' := by
  refine ⟨s.keep D o h n, ?_, fun z => ?_⟩
  · cases e : G' D with
    | none => rfl
    | some u =>
      rcases s.gnew D u e with q | q | q
      · rw [g] at q; cases q
      · rw [h] at q; cases q
      · exact absurd q n
  · rcases s.new D z with q | q
    · exact n q
    · rw [h] at q; cases q
/-- the loop of a comprehension, read -/
theorem lc_read {tg' : TG} {tt : TT} {te : TE} {vs : List Nat}
    (kg : ∀ v w σ H G ad ρ st ρ' Q, RepS (wd X) G ad st H → RepL (wd X) G ad ρ σ → Wv (wd X) G ad v w → g w ρ st = some ρ' → (∀ σ', But sl σ σ' → RepL (wd X) G ad ρ' σ' → Q σ' H) → tg' v σ H Q)
    (kt : ∀ σ H G ad ρ st Q, RepS (wd X) G ad st H → RepL (wd X) G ad ρ σ → Post X W0 G ad H σ relB (T ρ st) Q → tt σ H Q)
    (ke : ∀ σ H G ad ρ st Q, RepS (wd X) G ad st H → RepL (wd X) G ad ρ σ → Post X W0 G ad H σ (relW X) (Fe ρ st) Q → te σ H Q) (hsl : ∀ i ∈ sl, i ∈ vs)
    {J : It} {ws : List W} {G1 H1 : Hp} {ad1 : List Addr} {st1 : Sto} {ρ : Lv} {σ : L2.St} {Q : V → Hp → Prop} (rs1 : RepS (wd X) G1 ad1 st1 H1) (rl1 : RepL (wd X) G1 ad1 ρ σ) (rJ : Iters (wd X) G1 ad1 J ws) (hz : ws.length ≤ sizeLine)
    (q : Post X Wx G1 ad1 H1 σ (relW X) (lcF g T Fe (wipeL ρ vs) ws [] st1) Q) : ∀ D, H1 D = none → ∃ W : Nat → Nat → Hp → Prop, (∃ m, W 0 m (upd H1 D (.lst []))) ∧ ∀ i m H, W i m H →
      (J.stop i H ∧ Q (.ref D) H) ∨ (J.go i H ∧ ∃ Nx : Hp → Prop, (∀ H', Nx H' → ∃ m', m' < m ∧ W (i + 1) m' H') ∧ ∀ x H', J.yld i H x H' → tg' x (wipe σ vs) H' fun σ2 H2 => wipe σ2 vs = wipe σ vs ∧ tt σ2 H2 fun b H3 =>
        if b = true then te σ2 H3 fun y H4 => ∃ acc, H4 D = some (.lst acc) ∧ acc.length < sizeLine ∧ Nx (upd H4 D (.lst (acc ++ [y]))) else Nx H3) := by
  intro D hD
  have gD : G1 D = none := rs1.sub.none hD
  have nD : D ∉ ad1 := fun z => by obtain ⟨o, e⟩ := rs1.there z; rw [hD] at e; cases e
  have hinv : ∃ Iv : Nat → Hp → Prop, Iv = fun i H => ∃ G2 ad2 st2 acc us, Step G1 ad1 H1 G2 ad2 H ∧ RepS (wd X) G2 ad2 st2 H ∧ H D = some (.lst us) ∧ G2 D = none ∧ D ∉ ad2 ∧ WvAll (wd X) G2 ad2 us acc ∧ acc.length ≤ i ∧
      Post X Wx G1 ad1 H1 σ (relW X) (lcF g T Fe (wipeL ρ vs) (ws.drop i) acc st2) Q := ⟨_, rfl⟩
  obtain ⟨Iv, eI⟩ := hinv
  refine ⟨fun i m H => m = ws.length - i ∧ i ≤ ws.length ∧ Iv i H, ⟨_, rfl, Nat.zero_le _, ?_⟩, ?_⟩
  · rw [eI]
    exact ⟨G1, ad1, st1, [], [], Step.refl.fresh hD, rs1.other gD nD, upd_same, gD, nD, .nil, Nat.le_refl _, q⟩
  · rintro i m H2 ⟨rfl, hi, iv⟩
    rw [eI] at iv
    obtain ⟨G2, ad2, st2, acc, us, s2, rs2, hD2, gD2, nD2, ra, hacc, q2⟩ := iv
    have rl2 : RepL (wd X) G2 ad2 ρ σ := rl1.step s2
    obtain ⟨hgo, hstop⟩ := rJ G2 ad2 H2 s2.gle s2.adp rs2.sub
    by_cases hlt : i < ws.length
    · have hw : ws[i]? = some ws[i] := List.getElem?_eq_getElem hlt
      obtain ⟨go, yld⟩ := hgo i ws[i] hw
      refine .inr ⟨go, Iv (i + 1), fun H' hN => ⟨ws.length - (i + 1), by omega, rfl, hlt, hN⟩, fun x H' hy => ?_⟩
      obtain ⟨G3, hG⟩ := yld x H' hy
      obtain ⟨s3, rs3, rx⟩ := hG st2 rs2
      obtain ⟨hD3, gD3, nD3⟩ := s3.mine hD2 gD2 nD2
      rw [List.drop_eq_getElem_cons hlt] at q2
      unfold lcF at q2
      have rlw : RepL (wd X) G3 ad2 (wipeL ρ vs) (wipe σ vs) := wipeL_rel (rl2.step s3) vs
      cases eg : g ws[i] (wipeL ρ vs) st2 with
      | none => rw [eg] at q2; exact q2.elim
      | some ρ1 =>
        rw [eg] at q2
        refine kg x ws[i] (wipe σ vs) H' G3 ad2 (wipeL ρ vs) st2 ρ1 _ rs3 rlw rx eg fun σ2 hb rl4 => ⟨(wipe_but hb hsl).trans wipe_wipe, ?_⟩
        refine kt σ2 H' G3 ad2 ρ1 st2 _ rs3 rl4 ?_
        cases et : T ρ1 st2 with
        | exc c st3 => simp only [et] at q2; exact q2.elim
        | bad => simp only [et] at q2; exact q2.elim
        | ok b st3 =>
          intro b' G4 ad4 H4 s4 rs4 eb
          obtain rfl : b' = b := eb
          obtain ⟨hD4, gD4, nD4⟩ := s4.mine hD3 gD3 nD3
          have s24 := s2.trans (s3.trans s4)
          cases b' with
          | false =>
            simp only [et] at q2
            rw [if_neg Bool.false_ne_true, eI]
            exact ⟨G4, ad4, st3, acc, us, s24, rs4, hD4, gD4, nD4, WvAll.step (s3.trans s4) ra, Nat.le_succ_of_le hacc, q2⟩
          | true =>
            simp only [et] at q2
            rw [if_pos rfl]
            refine ke σ2 H4 G4 ad4 ρ1 st3 _ rs4 (rl4.step s4) ?_
            cases ey : Fe ρ1 st3 with
            | exc c st5 => simp only [ey] at q2; exact q2.elim
            | bad => simp only [ey] at q2; exact q2.elim
            | ok y st5 =>
              intro v G5 ad5 H5 s5 rs5 rv
              simp only [ey] at q2
              obtain ⟨hD5, gD5, nD5⟩ := s5.mine hD4 gD4 nD4
              have ra5 := WvAll.step (s3.trans (s4.trans s5)) ra
              refine ⟨us, hD5, by rw [ra5.length]; omega, ?_⟩
              rw [eI]
              exact ⟨G5, ad5, st5, acc ++ [y], us ++ [v], (s24.trans s5).fresh hD, rs5.other gD5 nD5, upd_same, gD5, nD5, ra5.append (.cons rv .nil), by simp; omega, q2⟩
    · have e : i = ws.length := by omega
      subst e
      refine .inl ⟨hstop, ?_⟩
      rw [List.drop_length] at q2
      unfold lcF at q2
      have s5 : Step G1 ad1 H1 (upd G2 D (.lst us)) ad2 H2 := s2.freshG hD gD2
      have rs5 := rs2.freezeAt hD2 gD2 nD2
      have le : Le G2 (upd G2 D (.lst us)) := Le.upd gD2
      unfold packW at q2
      cases ed : datas acc with
      | some xs =>
        simp only [ed] at q2
        exact q2 _ _ ad2 H2 s5 rs5 (.d (.lst (SqL.of upd_same) ((datas_rel ra ed).le le)))
      | none =>
        simp only [ed] at q2
        cases eh : handles acc with
        | none => simp only [eh] at q2; exact q2.elim
        | some ns =>
          simp only [eh] at q2
          exact q2 _ _ ad2 H2 s5 rs5 (.hs upd_same (handles_rel ra eh))
theorem fe_lc (hc : X.calm = true) (hN : X.N.Nodup) (hi : FI X Wx tg iter FI') (ok : BlkOk X.N X.env.scope scope own) (hg : Blk X scope fun Y => FG Y tg g sl) (ht : Blk X scope fun Y => FTs Y W0 ifs T) (he : Blk X scope fun Y => FE Y W0 elt Fe) (hsl : ∀ i ∈ sl, i ∈ own.map (·.2))
    (hs : ∀ x, foldedSetIterable iter X.env x = pure x := by intro _; rfl) : FE X Wx (.ListComp elt [⟨tg, iter, ifs, 0⟩] scope pos) (cLc FI' (own.map (·.2)) g T Fe) := by
  obtain ⟨wi, pi, ki⟩ := hi
  obtain ⟨tg', pg, kg⟩ := blk_g hg
  obtain ⟨tt, pt, kt⟩ := blk_t ht
  obtain ⟨te, pe, ke⟩ := blk_e he
  refine ⟨_, pe_lc hc hN pi ok pg pt pe hs, fun σ H G ad ρ st Q rs rl h => ?_⟩
  refine ki σ H G ad ρ st _ rs rl (Post.bind h fun ws st1 J G1 ad1 H1 _ s1 rs1 rJ q => ?_)
  split at q
  · rename_i hz
    exact lc_read kg kt ke hsl rs1 (rl.step s1) rJ hz q
  · exact q.elim
/-- name = [..], the name a plain local -/
theorem fs_setLc {i : Nat} {y : Str} {py spos : Pos} (hc : X.calm = true) (hN : X.N.Nodup) (hy : X.N[i]? = some y) (hyl : X.env.scope.names.lookup y = some .local)
    (hsw : swapsWith (.ListComp elt [⟨tg, iter, ifs, 0⟩] scope pos) (some (.Name y py)) spos.line X.env = pure true) (hi : FI X Wx tg iter FI') (ok : BlkOk X.N X.env.scope scope own) (hg : Blk X scope fun Y => FG Y tg g sl) (ht : Blk X scope fun Y => FTs Y W0 ifs T) (he : Blk X scope fun Y => FE Y W0 elt Fe) (hsl : ∀ i ∈ sl, i ∈ own.map (·.2))
    (hs : ∀ x, foldedSetIterable iter X.env x = pure x := by intro _; rfl) : FS X Wx (.Assign [.Name y py] (.ListComp elt [⟨tg, iter, ifs, 0⟩] scope pos) spos) (sSet i (cLc FI' (own.map (·.2)) g T Fe)) := by
  obtain ⟨wi, pi, ki⟩ := hi
  obtain ⟨tg', pg, kg⟩ := blk_g hg
  obtain ⟨tt, pt, kt⟩ := blk_t ht
  obtain ⟨te, pe, ke⟩ := blk_e he
  refine ⟨_, ps_setLc hc hN hy hyl hsw pi ok pg pt pe hs, fun σ H G ad ρ st D rs rl h => ?_⟩
  have h' : Post X Wx G ad H σ (relW X) (cLc FI' (own.map (·.2)) g T Fe ρ st) (fun x H1 => gName i x σ H1 D.nx) :=
    PostS.ex rl h fun w st1 v G1 ad1 H1 s1 rs1 rv q => q _ G1 ad1 H1 .refl rs1 ((rl.step s1).set rv)
  refine ki σ H G ad ρ st _ rs rl (Post.bind h' fun ws st1 J G1 ad1 H1 _ s1 rs1 rJ q => ?_)
  split at q
  · rename_i hz
    exact lc_read kg kt ke hsl rs1 (rl.step s1) rJ hz q
  · exact q.elim
end
end Fx

namespace Fx
open PySem PySem.Spec L2
open PyProof.Rows hiding St

/-! ### global names -/
section
variable {X : Cx} {Wx : WX} {x : Str} {pos : Pos}
theorem fe_gint {i : Int} {t : Tok} (hg : Gl X x) (hm : X.mg x = some (.int i t)) (hd : (x == ("__debug__" : Str)) = false := by decide) : FE X Wx (.Name x pos) (cD (.int i)) :=
  ⟨_, pe_glob (v := .int i) hg hm ⟨t, rfl⟩ hd, fun σ H G ad ρ st Q rs rl h => h _ G ad H .refl rs (.d (.int i))⟩
theorem fe_gdat {a : Addr} {d : PyData} (hg : Gl X x) (hm : X.mg x = some (.ref a)) (hv : ∀ G, Dv (wd X) G (.ref a) d) (hd : (x == ("__debug__" : Str)) = false := by decide) : FE X Wx (.Name x pos) (cD d) :=
  ⟨_, pe_glob (v := .ref a) hg hm rfl hd, fun σ H G ad ρ st Q rs rl h => h _ G ad H .refl rs (.d (hv G))⟩
theorem dv_ktup {C : Wd} {a : Addr} {o : Obj} {its : Array Value} {n : Nat} {xs : List V} {ds : List PyData} (h : C.K.lookup a = some o) (hc : o.cls = .type "tuple") (hd : o.data = .seq its n) (hz : its.size ≤ sizeLine) (hv : Vals xs its.toList) (hx : ∀ G, DvAll C G xs ds) : ∀ G, Dv C G (.ref a) (.tuple ds) :=
  fun G => .tup (.inr ⟨o, its, n, h, hc, hd, hz, hv⟩) (hx G)
end

/-! ### isinstance, one built-in type -/
def tyName : PyData → String
  | .none => "NoneType" | .bool _ => "bool" | .int _ => "int" | .str _ => "str" | .list _ => "list" | .tuple _ => "tuple" | .dict _ => "dict"
def isiB (a T : String) : Bool := a == T || (a == "bool" && T == "int")
def fIsi (T : String) (x : PyData) : Option PyData := match x with
  | .dict _ => none
  | x => some (.bool (isiB (tyName x) T))
def KitOk (T : String) : Prop := ∀ a ∈ ["NoneType", "bool", "int", "str", "list", "tuple"], kitB a T = some (isiB a T)
theorem kit_int : KitOk "int" := by unfold KitOk; decide +kernel
theorem kit_bool : KitOk "bool" := by unfold KitOk; decide +kernel
theorem kit_str : KitOk "str" := by unfold KitOk; decide +kernel
theorem kit_tuple : KitOk "tuple" := by unfold KitOk; decide +kernel
theorem kit_list : KitOk "list" := by unfold KitOk; decide +kernel
section
variable {X : Cx} {Wx : WX} {x : Str} {p p2 pos : Pos} {e : Expr} {es : List Expr} {Fe : EF} {T : String}
theorem tyX_of {C : Wd} {H : Hp} {v : V} {d : PyData} (r : Dv C H v d) (h : ∀ m, d ≠ .dict m) : TyX C.K H v (.type (tyName d)) := by
  cases r with
  | non => exact .base .non
  | bl b => exact .base (.bl b)
  | int i => exact .base (.int i)
  | str z => exact .base (.str z)
  | lst hq _ =>
    rcases hq with (h | ⟨o, h⟩) | ⟨o, its, n, h, hc, _⟩
    · exact .base (.lst h)
    · exact .base (.frz h)
    · exact .kList h hc
  | tup hq _ =>
    rcases hq with (h | ⟨o, h⟩) | ⟨o, its, n, h, hc, _⟩
    · exact .base (.tup h)
    · exact .fTuple h
    · exact .kTuple h hc
  | dic _ _ _ => exact absurd rfl (h _)
theorem o_isi {K : PySem.W.Frag} (hT : KitOk T) (hK : K = X.K) : Op1 X Wx (g1 (fIsi T)) (fun v H Q => rIsi K [v, .ty T] H Q) := op1_of fun σ H G ad st v w x d Q rs rv e1 e h => by
  subst hK
  have nd : ∀ m, x ≠ .dict m := fun m z => by subst z; cases e
  have e2 : d = .bool (isiB (tyName x) T) := by
    cases x with
    | dict m => exact absurd rfl (nd m)
    | _ => exact (Option.some.inj e).symm
  subst e2
  refine ⟨v, .ty T, _, .type T, _, rfl, .ty T, tyX_of (der_dv rs rv e1) nd, kit_ty (hT _ ?_), h.val rs (.bl _)⟩
  cases x with
  | dict m => exact absurd rfl (nd m)
  | _ => simp [tyName]
theorem fe_isi (hT : KitOk T) (he : FE X Wx e Fe) (hg : Gl X "isinstance") (hm : X.mg "isinstance" = none) (hg2 : Gl X x) (hm2 : X.mg x = none) (hv2 : bootBuiltins x = some (.type T)) (hn2 : x ≠ "__name__" := by decide) (hd2 : (x == ("__debug__" : Str)) = false := by decide)
    (hs : starEach [e, .Name x p2] X.env = (false, eval e X.env) :: starEach [.Name x p2] X.env := by rfl) (hs2 : starEach [.Name x p2] X.env = (false, eval (.Name x p2) X.env) :: starEach [] X.env := by rfl) (hpl : (backTo pos (starEach [.Name x p2] X.env)).any (·.1) = false := by rfl) : FE X Wx (.Call (.Name "isinstance" p) [e, .Name x p2] [] pos) (c1 (g1 (fIsi T)) Fe) :=
  fe_1 (o_isi hT rfl) he fun ta pa => pe_callB call_isi hg hm PyProof.Rows.boot_isinstance (pa_cons pa (pa_cons (pe_bltn (v := .ty T) hg2 hm2 hv2 rfl hn2 hd2) pa_nil hs2) hs) (by decide) (by decide) hs hpl
end

/-! ### numbers and boolsD in a list -/
def intsD : List PyData → Option (List Int)
  | [] => some []
  | .int i :: r => (intsD r).map (i :: ·)
  | _ => none
def boolsD : List PyData → Option (List Bool)
  | [] => some []
  | .bool i :: r => (boolsD r).map (i :: ·)
  | _ => none
theorem ints_map : ∀ ns : List Int, intsD (ns.map .int) = some ns
  | [] => rfl
  | n :: r => by rw [List.map_cons]; unfold intsD; rw [ints_map r]; rfl
theorem bools_map : ∀ ns : List Bool, boolsD (ns.map .bool) = some ns
  | [] => rfl
  | n :: r => by rw [List.map_cons]; unfold boolsD; rw [bools_map r]; rfl
theorem ints_rel {C : Wd} {G : Hp} : ∀ {vs : List V} {ds : List PyData} {ns : List Int}, DvAll C G vs ds → intsD ds = some ns → vs = ns.map V.int
  | _, _, _, .nil, e => by cases e; rfl
  | _, _, _, .cons h r, e => by
    cases h with
    | int i =>
      obtain ⟨m, e1, rfl⟩ := Option.map_eq_some_iff.mp e
      rw [ints_rel r e1]; rfl
    | _ => cases e
theorem bools_rel {C : Wd} {G : Hp} : ∀ {vs : List V} {ds : List PyData} {ns : List Bool}, DvAll C G vs ds → boolsD ds = some ns → vs = ns.map V.bl
  | _, _, _, .nil, e => by cases e; rfl
  | _, _, _, .cons h r, e => by
    cases h with
    | bl i =>
      obtain ⟨m, e1, rfl⟩ := Option.map_eq_some_iff.mp e
      rw [bools_rel r e1]; rfl
    | _ => cases e
theorem dvAll_ints {C : Wd} {G : Hp} : ∀ ns : List Int, DvAll C G (ns.map V.int) (ns.map .int)
  | [] => .nil
  | n :: r => .cons (.int n) (dvAll_ints r)

def fInt : PyData → Option PyData
  | .int i => some (.int i)
  | .bool b => some (.int (if b = true then 1 else 0))
  | _ => none
def fAll : PyData → Option PyData
  | .list ds => (boolsD ds).map fun bs => .bool (bs.all id)
  | _ => none
def fAbs : PyData → Option PyData
  | .int i => some (.int (if i < 0 then -i else i))
  | _ => none
def fMax2 : PyData → PyData → Option PyData
  | .int i, .int j => some (.int (if j > i then j else i))
  | _, _ => none
def fMin2 : PyData → PyData → Option PyData
  | .int i, .int j => some (.int (if j < i then j else i))
  | _, _ => none
def fList : PyData → Option PyData
  | .list xs => some (.list xs)
  | .tuple xs => some (.list xs)
  | _ => none
def fTuple : PyData → Option PyData
  | .list xs => some (.tuple xs)
  | .tuple xs => some (.tuple xs)
  | _ => none
def fMaxL : PyData → Option PyData
  | .list ds => match intsD ds with | some (n :: ns) => some (.int (ns.foldl max n)) | _ => none
  | _ => none
def fMinL : PyData → Option PyData
  | .list ds => match intsD ds with | some (n :: ns) => some (.int (ns.foldl min n)) | _ => none
  | _ => none
def fSum : PyData → Option PyData
  | .list ds => (intsD ds).map fun ns => .int ns.sum
  | _ => none
theorem foldl_max_ge : ∀ (ns : List Int) (n : Int), n ≤ ns.foldl max n ∧ ∀ y ∈ ns, y ≤ ns.foldl max n
  | [], n => ⟨Int.le_refl _, fun y h => (List.not_mem_nil h).elim⟩
  | a :: r, n => by
    obtain ⟨h1, h2⟩ := foldl_max_ge r (max n a)
    refine ⟨by simp only [List.foldl_cons]; omega, fun y hy => ?_⟩
    rcases List.mem_cons.mp hy with rfl | hy
    · simp only [List.foldl_cons]; omega
    · exact h2 y hy
theorem foldl_max_mem : ∀ (ns : List Int) (n : Int), ns.foldl max n ∈ n :: ns
  | [], n => by simp
  | a :: r, n => by
    have h := foldl_max_mem r (max n a)
    simp only [List.foldl_cons]
    rcases List.mem_cons.mp h with h | h
    · rw [h]
      rcases Int.le_total n a with q | q
      · rw [Int.max_eq_right q]; simp
      · rw [Int.max_eq_left q]; simp
    · simp [h]
theorem foldl_min_le : ∀ (ns : List Int) (n : Int), ns.foldl min n ≤ n ∧ ∀ y ∈ ns, ns.foldl min n ≤ y
  | [], n => ⟨Int.le_refl _, fun y h => (List.not_mem_nil h).elim⟩
  | a :: r, n => by
    obtain ⟨h1, h2⟩ := foldl_min_le r (min n a)
    refine ⟨by simp only [List.foldl_cons]; omega, fun y hy => ?_⟩
    rcases List.mem_cons.mp hy with rfl | hy
    · simp only [List.foldl_cons]; omega
    · exact h2 y hy
theorem foldl_min_mem : ∀ (ns : List Int) (n : Int), ns.foldl min n ∈ n :: ns
  | [], n => by simp
  | a :: r, n => by
    have h := foldl_min_mem r (min n a)
    simp only [List.foldl_cons]
    rcases List.mem_cons.mp h with h | h
    · rw [h]
      rcases Int.le_total n a with q | q
      · rw [Int.min_eq_left q]; simp
      · rw [Int.min_eq_right q]; simp
    · simp [h]
section
variable {X : Cx} {Wx : WX}
theorem o_int : OpA X Wx (gA1 fInt) (fun xs H Q => (∃ i, xs = [.int i] ∧ Q (.int i) H) ∨ ∃ k, xs = [.bl k] ∧ Q (.int (if k then 1 else 0)) H) :=
  opA1 (r := fun x H Q => (∃ i, x = .int i ∧ Q (.int i) H) ∨ ∃ k, x = .bl k ∧ Q (.int (if k then 1 else 0)) H) (op1_of fun σ H G ad st v w x d Q rs rv e1 e h => by
    unfold fInt at e
    split at e
    · cases e; obtain rfl := der_int rs rv e1; exact .inl ⟨_, rfl, h.val rs (.int _)⟩
    · cases e; obtain rfl := der_bl rs rv e1; exact .inr ⟨_, rfl, h.val rs (.int _)⟩
    · cases e) fun v H Q h => by
      rcases h with ⟨i, rfl, q⟩ | ⟨k, rfl, q⟩
      · exact .inl ⟨i, rfl, q⟩
      · exact .inr ⟨k, rfl, q⟩
theorem o_all : OpA X Wx (gA1 fAll) (rAll X.K) := opA1 (r := fun x H Q => rAll X.K [x] H Q) (op1_of fun σ H G ad st v w x d Q rs rv e1 e h => by
  unfold fAll at e
  split at e
  · obtain ⟨bs, e2, rfl⟩ := Option.map_eq_some_iff.mp e
    obtain ⟨p, vs, rfl, s1, r1⟩ := der_lst rs rv e1
    obtain rfl := bools_rel r1 e2
    exact ⟨p, bs, rfl, s1, h.val rs (.bl _)⟩
  · cases e) fun _ _ _ h => h
theorem o_sum : OpA X Wx (gA1 fSum) (rSum X.K) := opA1 (r := fun x H Q => rSum X.K [x] H Q) (op1_of fun σ H G ad st v w x d Q rs rv e1 e h => by
  unfold fSum at e
  split at e
  · obtain ⟨bs, e2, rfl⟩ := Option.map_eq_some_iff.mp e
    obtain ⟨p, vs, rfl, s1, r1⟩ := der_lst rs rv e1
    obtain rfl := ints_rel r1 e2
    exact ⟨p, bs, rfl, s1, h.val rs (.int _)⟩
  · cases e) fun _ _ _ h => h
theorem o_abs : OpA X Wx (gA1 fAbs) (fun xs H Q => ∃ i, xs = [.int i] ∧ Q (.int (if i < 0 then -i else i)) H) := opA1 (r := fun x H Q => ∃ i, x = .int i ∧ Q (.int (if i < 0 then -i else i)) H) (op1_of fun σ H G ad st v w x d Q rs rv e1 e h => by
  unfold fAbs at e
  split at e
  · cases e; obtain rfl := der_int rs rv e1; exact ⟨_, rfl, h.val rs (.int _)⟩
  · cases e) fun v H Q ⟨i, e, q⟩ => ⟨i, by rw [e], q⟩
theorem o_max2 : OpA X Wx (gA2 fMax2) (fun xs H Q => ∃ i j, xs = [.int i, .int j] ∧ Q (.int (if j > i then j else i)) H) := opA2 (r := fun x y H Q => ∃ i j, x = .int i ∧ y = .int j ∧ Q (.int (if j > i then j else i)) H) (op2_of fun σ H G ad st v w u z x y d Q rs rv ru e1 e2 e h => by
  unfold fMax2 at e
  split at e
  · cases e; obtain rfl := der_int rs rv e1; obtain rfl := der_int rs ru e2; exact ⟨_, _, rfl, rfl, h.val rs (.int _)⟩
  · cases e) fun v u H Q ⟨i, j, e, e', q⟩ => ⟨i, j, by rw [e, e'], q⟩
theorem o_min2 : OpA X Wx (gA2 fMin2) (fun xs H Q => ∃ i j, xs = [.int i, .int j] ∧ Q (.int (if j < i then j else i)) H) := opA2 (r := fun x y H Q => ∃ i j, x = .int i ∧ y = .int j ∧ Q (.int (if j < i then j else i)) H) (op2_of fun σ H G ad st v w u z x y d Q rs rv ru e1 e2 e h => by
  unfold fMin2 at e
  split at e
  · cases e; obtain rfl := der_int rs rv e1; obtain rfl := der_int rs ru e2; exact ⟨_, _, rfl, rfl, h.val rs (.int _)⟩
  · cases e) fun v u H Q ⟨i, j, e, e', q⟩ => ⟨i, j, by rw [e, e'], q⟩
theorem o_maxL : OpA X Wx (gA1 fMaxL) (rMax X.K) := opA1 (r := fun x H Q => rMax X.K [x] H Q) (op1_of fun σ H G ad st v w x d Q rs rv e1 e h => by
  unfold fMaxL at e
  split at e
  · split at e
    · rename_i n ns e2
      cases e
      obtain ⟨p, vs, rfl, s1, r1⟩ := der_lst rs rv e1
      obtain rfl := ints_rel r1 e2
      refine ⟨p, n :: ns, rfl, s1, by simp, fun m hm hy => ?_⟩
      have a := foldl_max_ge ns n
      have b := hy _ (foldl_max_mem ns n)
      have c : m ≤ ns.foldl max n := by rcases List.mem_cons.mp hm with rfl | z; exact a.1; exact a.2 m z
      obtain rfl : m = ns.foldl max n := by omega
      exact h.val rs (.int _)
    · cases e
  · cases e) fun _ _ _ h => h
theorem o_minL : OpA X Wx (gA1 fMinL) (rMin X.K) := opA1 (r := fun x H Q => rMin X.K [x] H Q) (op1_of fun σ H G ad st v w x d Q rs rv e1 e h => by
  unfold fMinL at e
  split at e
  · split at e
    · rename_i n ns e2
      cases e
      obtain ⟨p, vs, rfl, s1, r1⟩ := der_lst rs rv e1
      obtain rfl := ints_rel r1 e2
      refine ⟨p, n :: ns, rfl, s1, by simp, fun m hm hy => ?_⟩
      have a := foldl_min_le ns n
      have b := hy _ (foldl_min_mem ns n)
      have c : ns.foldl min n ≤ m := by rcases List.mem_cons.mp hm with rfl | z; exact a.1; exact a.2 m z
      obtain rfl : m = ns.foldl min n := by omega
      exact h.val rs (.int _)
    · cases e
  · cases e) fun _ _ _ h => h
theorem o_list : OpA X Wx (gA1 fList) (fun xs H Q => ∃ p ys, xs = [.ref p] ∧ (SqL X.K H p ys ∨ SqT X.K H p ys) ∧ ∀ l, H l = none → Q (.ref l) (upd H l (.lst ys))) := opA1 (r := fun x H Q => ∃ p ys, x = .ref p ∧ (SqL X.K H p ys ∨ SqT X.K H p ys) ∧ ∀ l, H l = none → Q (.ref l) (upd H l (.lst ys))) (op1_of fun σ H G ad st v w x d Q rs rv e1 e h => by
  unfold fList at e
  split at e
  · cases e
    obtain ⟨p, vs, rfl, s1, r1⟩ := der_lst rs rv e1
    exact ⟨p, vs, rfl, .inl (s1), h.newLst rs r1⟩
  · cases e
    obtain ⟨p, vs, rfl, s1, r1, _⟩ := der_tup rs rv e1
    exact ⟨p, vs, rfl, .inr s1, h.newLst rs r1⟩
  · cases e) fun v H Q ⟨p, ys, e, q⟩ => ⟨p, ys, by rw [e], q⟩
theorem o_tuple : OpA X Wx (gA1 fTuple) (fun xs H Q => ∃ p ys, xs = [.ref p] ∧ ((SqL X.K H p ys ∧ ∀ l, H l = none → Q (.ref l) (upd H l (.tup ys))) ∨ (SqT X.K H p ys ∧ Q (.ref p) H))) := opA1 (r := fun x H Q => ∃ p ys, x = .ref p ∧ ((SqL X.K H p ys ∧ ∀ l, H l = none → Q (.ref l) (upd H l (.tup ys))) ∨ (SqT X.K H p ys ∧ Q (.ref p) H))) (op1_of fun σ H G ad st v w x d Q rs rv e1 e h => by
  unfold fTuple at e
  split at e
  · cases e
    obtain ⟨p, vs, rfl, s1, r1⟩ := der_lst rs rv e1
    exact ⟨p, vs, rfl, .inl ⟨s1, h.newTup rs r1⟩⟩
  · cases e
    obtain ⟨p, vs, rfl, s1, r1, d1⟩ := der_tup rs rv e1
    exact ⟨p, vs, rfl, .inr ⟨s1, h.val rs d1⟩⟩
  · cases e) fun v H Q ⟨p, ys, e, q⟩ => ⟨p, ys, by rw [e], q⟩
end

/-! ### tuple(range(..)) -/
def cTupR1 (a : EF) : EF := fun ρ st => (a ρ st).bind fun w st => match w with | .d (.int n) => if n ≤ 16777216 ∧ 0 ≤ n then .ok (.d (.tuple ((List.range n.toNat).map fun (i : Nat) => .int i))) st else .bad | _ => .bad
section
variable {X : Cx} {Wx : WX} {a : Expr} {Fa : EF} {p p2 pos pos2 : Pos}
theorem dvAll_rg {C : Wd} {G : Hp} {n : Int} : DvAll C G (rgV 0 n) ((List.range n.toNat).map fun (i : Nat) => .int i) := by
  have e : rgV 0 n = ((List.range n.toNat).map fun (i : Nat) => (i : Int)).map V.int := by
    unfold rgV; rw [List.map_map, Int.sub_zero]; exact List.map_congr_left fun i _ => by show V.int (0 + i) = V.int i; rw [Int.zero_add]
  have e2 : ((List.range n.toNat).map fun (i : Nat) => PyData.int i) = ((List.range n.toNat).map fun (i : Nat) => (i : Int)).map PyData.int := by rw [List.map_map]; rfl
  rw [e, e2]
  exact dvAll_ints _
theorem fe_tupR1 (hc : X.calm = true) (hg : Gl X "tuple") (hm : X.mg "tuple" = none) (hg2 : Gl X "range") (hm2 : X.mg "range" = none) (ha : FE X Wx a Fa) (na : starEach [a] X.env = (false, eval a X.env) :: starEach [] X.env := by rfl)
    (ne : starEach [.Call (.Name "range" p2) [a] [] pos2] X.env = (false, eval (.Call (.Name "range" p2) [a] [] pos2) X.env) :: starEach [] X.env := by rfl) : FE X Wx (.Call (.Name "tuple" p) [.Call (.Name "range" p2) [a] [] pos2] [] pos) (cTupR1 Fa) := by
  obtain ⟨t, q, k⟩ := ha
  refine ⟨_, pe_tupRg hc hg hm (prg_1 hg2 hm2 q na) ne, fun σ H G ad ρ st Q rs rl h => ?_⟩
  refine k σ H G ad ρ st _ rs rl (Post.bind h fun w st1 v G1 ad1 H1 _ s1 rs1 rv q => ?_)
  split at q
  · split at q
    · rename_i n _ hn
      cases rv with | d r => cases r; exact ⟨_, rfl, RgOk.of_le (by omega) (by omega) (by omega) (by omega), fun p hp => Post.newTup q rs1 dvAll_rg p hp⟩
    · exact q.elim
  · exact q.elim
end
end Fx

namespace Fx
open PySem PySem.Spec L2
open PyProof.Rows hiding St

/-! ### sorting, in plain Lean -/
section lin
variable {α : Type} [DecidableEq α]
structure Lin (lt : α → α → Bool) : Prop where
  irr : ∀ x, lt x x = false
  tr : ∀ x y z, lt x y = true → lt y z = true → lt x z = true
  tot : ∀ x y, x ≠ y → lt x y = true ∨ lt y x = true
def insU (lt : α → α → Bool) (x : α) : List α → List α
  | [] => [x]
  | y :: r => if x = y then y :: r else if lt x y = true then x :: y :: r else y :: insU lt x r
def usort (lt : α → α → Bool) : List α → List α
  | [] => []
  | x :: r => insU lt x (usort lt r)
def insS (lt : α → α → Bool) (x : α) : List α → List α
  | [] => [x]
  | y :: r => if lt y x = true then y :: insS lt x r else x :: y :: r
def ssort (lt : α → α → Bool) : List α → List α
  | [] => []
  | x :: r => insS lt x (ssort lt r)
variable {lt : α → α → Bool}
theorem mem_insU {x z : α} : ∀ {l : List α}, z ∈ insU lt x l ↔ z = x ∨ z ∈ l
  | [] => by simp [insU]
  | y :: r => by
    unfold insU
    split
    · rename_i h; subst h; simp
    · split
      · simp
      · rw [List.mem_cons, mem_insU, List.mem_cons]
        constructor
        · rintro (h | h | h) <;> simp [h]
        · rintro (h | h | h) <;> simp [h]
theorem mem_usort {z : α} : ∀ {l : List α}, z ∈ usort lt l ↔ z ∈ l
  | [] => by simp [usort]
  | x :: r => by unfold usort; rw [mem_insU, mem_usort, List.mem_cons]
theorem insU_sorted (L : Lin lt) {x : α} : ∀ {l : List α}, l.Pairwise (fun a b => lt a b = true) → (insU lt x l).Pairwise (fun a b => lt a b = true)
  | [], _ => by simp [insU]
  | y :: r, h => by
    obtain ⟨h1, h2⟩ := List.pairwise_cons.mp h
    unfold insU
    split
    · exact h
    · rename_i hne
      split
      · rename_i hlt
        refine List.pairwise_cons.mpr ⟨fun z hz => ?_, h⟩
        rcases List.mem_cons.mp hz with rfl | hz
        · exact hlt
        · exact L.tr _ _ _ hlt (h1 z hz)
      · rename_i hlt
        refine List.pairwise_cons.mpr ⟨fun z hz => ?_, insU_sorted L h2⟩
        rcases mem_insU.mp hz with rfl | hz
        · rcases L.tot _ _ hne with q | q
          · exact absurd q hlt
          · exact q
        · exact h1 z hz
theorem usort_sorted (L : Lin lt) : ∀ l : List α, (usort lt l).Pairwise (fun a b => lt a b = true)
  | [] => .nil
  | x :: r => insU_sorted L (usort_sorted L r)
theorem strict_nodup (L : Lin lt) {l : List α} (h : l.Pairwise (fun a b => lt a b = true)) : l.Nodup := h.imp fun {a b} q e => by rw [e, L.irr] at q; cases q
theorem strict_uniq (L : Lin lt) {l m : List α} (h : l.Pairwise (fun a b => lt a b = true)) (h' : m.Pairwise (fun a b => lt a b = true)) (e : ∀ x, x ∈ l ↔ x ∈ m) : l = m :=
  List.Perm.eq_of_pairwise (le := fun a b => lt a b = true) (fun a b _ _ p q => by have := L.tr _ _ _ p q; rw [L.irr] at this; cases this) h h' ((List.perm_ext_iff_of_nodup (strict_nodup L h) (strict_nodup L h')).mpr e)
theorem insS_perm {x : α} : ∀ l : List α, (insS lt x l).Perm (x :: l)
  | [] => .refl _
  | y :: r => by
    unfold insS
    split
    · exact ((insS_perm r).cons y).trans (.swap ..)
    · exact .refl _
theorem ssort_perm : ∀ l : List α, (ssort lt l).Perm l
  | [] => .refl _
  | x :: r => (insS_perm _).trans ((ssort_perm r).cons x)
theorem insS_sorted (L : Lin lt) {x : α} : ∀ {l : List α}, l.Pairwise (fun a b => lt b a = false) → (insS lt x l).Pairwise (fun a b => lt b a = false)
  | [], _ => by simp [insS]
  | y :: r, h => by
    obtain ⟨h1, h2⟩ := List.pairwise_cons.mp h
    unfold insS
    split
    · rename_i hlt
      refine List.pairwise_cons.mpr ⟨fun z hz => ?_, insS_sorted L h2⟩
      rcases List.mem_cons.mp ((insS_perm r).mem_iff.mp hz) with rfl | hz
      · cases q : lt z y with
        | false => rfl
        | true => have := L.tr _ _ _ q hlt; rw [L.irr] at this; cases this
      · exact h1 z hz
    · rename_i hlt
      refine List.pairwise_cons.mpr ⟨fun z hz => ?_, h⟩
      rcases List.mem_cons.mp hz with rfl | hz
      · cases q : lt z x with
        | false => rfl
        | true => exact absurd q hlt
      · have a := h1 z hz
        cases q : lt z x with
        | false => rfl
        | true =>
          by_cases hxy : x = y
          · rw [hxy, a] at q; cases q
          · rcases L.tot _ _ hxy with p | p
            · have := L.tr _ _ _ q p; rw [a] at this; cases this
            · exact absurd p hlt
theorem ssort_sorted (L : Lin lt) : ∀ l : List α, (ssort lt l).Pairwise (fun a b => lt b a = false)
  | [] => .nil
  | x :: r => insS_sorted L (ssort_sorted L r)
theorem srt_uniq (L : Lin lt) {l m : List α} (h : l.Pairwise (fun a b => lt b a = false)) (h' : m.Pairwise (fun a b => lt b a = false)) (e : l.Perm m) : l = m :=
  List.Perm.eq_of_pairwise (le := fun a b => lt b a = false) (fun a b _ _ p q => by
    by_cases hab : a = b
    · exact hab
    · rcases L.tot _ _ hab with z | z
      · rw [q] at z; cases z
      · rw [p] at z; cases z) h h' e
end lin
def ltI (x y : Int) : Bool := decide (x < y)
theorem lin_int : Lin ltI := ⟨fun x => by simp [ltI], fun x y z h h' => by simp [ltI] at *; omega, fun x y h => by simp [ltI] at *; omega⟩
abbrev Pr := Int × Int
theorem lin_pr : Lin SrtO.lexB := ⟨fun x => by simp [SrtO.lexB], fun x y z h h' => by
    rw [SrtO.lexB_iff] at *; omega, fun x y h => by
    rw [SrtO.lexB_iff, SrtO.lexB_iff]
    have : x.1 ≠ y.1 ∨ x.2 ≠ y.2 := by
      by_cases e : x.1 = y.1
      · by_cases e2 : x.2 = y.2
        · exact absurd (Prod.ext e e2) h
        · exact .inr e2
      · exact .inl e
    omega⟩
theorem len_eq_of_nodup {α : Type} {l m : List α} (h : l.Nodup) (h' : m.Nodup) (e : ∀ x, x ∈ l ↔ x ∈ m) : l.length = m.length := ((List.perm_ext_iff_of_nodup h h').mpr e).length_eq

/-! ### pairs in data -/
def prD (p : Pr) : PyData := .tuple [.int p.1, .int p.2]
def prV (p : Pr) : List V := [.int p.1, .int p.2]
def prs : List PyData → Option (List Pr)
  | [] => some []
  | .tuple [.int i, .int j] :: r => (prs r).map ((i, j) :: ·)
  | _ => none
theorem prs_map : ∀ ps : List Pr, prs (ps.map prD) = some ps
  | [] => rfl
  | p :: r => by rw [List.map_cons]; unfold prD prs; rw [show (fun p : Pr => PyData.tuple [.int p.1, .int p.2]) = prD from rfl]; rw [prs_map r]; rfl
/-- the pairs, with the addresses they lie at -/
theorem prs_rel {C : Wd} {G : Hp} : ∀ {vs : List V} {ds : List PyData} {ps : List Pr}, DvAll C G vs ds → prs ds = some ps → ∃ zs : List (Addr × Pr), vs = zs.map (fun z => V.ref z.1) ∧ ps = zs.map (·.2) ∧ ∀ z ∈ zs, SqT C.K G z.1 (prV z.2)
  | _, _, _, .nil, e => by cases e; exact ⟨[], rfl, rfl, fun z h => (List.not_mem_nil h).elim⟩
  | _, _, ps, .cons (d := d) h r, e => by
    cases h with
    | @tup a xs dd hq hr =>
      cases hr with
      | nil => cases e
      | cons h1 r1 => cases h1 with
        | int i => cases r1 with
          | nil => cases e
          | cons h2 r2 => cases h2 with
            | int j => cases r2 with
              | nil =>
                obtain ⟨m, e1, rfl⟩ := Option.map_eq_some_iff.mp e
                obtain ⟨zs, h3, h4, h5⟩ := prs_rel r e1
                refine ⟨(a, (i, j)) :: zs, by rw [h3]; rfl, by rw [h4]; rfl, fun z hz => ?_⟩
                rcases List.mem_cons.mp hz with rfl | hz
                · exact hq
                · exact h5 z hz
              | cons _ _ => cases e
            | _ => cases e
        | _ => cases e
    | _ => cases e
theorem dvAll_prs {C : Wd} {G : Hp} : ∀ (zs : List (Addr × Pr)), (∀ z ∈ zs, SqT C.K G z.1 (prV z.2)) → DvAll C G (zs.map fun z => V.ref z.1) ((zs.map (·.2)).map prD)
  | [], _ => .nil
  | z :: r, h => .cons (.tup (h z List.mem_cons_self) (.cons (.int _) (.cons (.int _) .nil))) (dvAll_prs r fun y hy => h y (List.mem_cons_of_mem _ hy))

/-! ### sorted(xs) -/
/-- a list of pairs, with their addresses -/
def rSortPr (K : PySem.W.Frag) : List V → Hp → VK → Prop := fun vs H Q => ∃ (a : Addr) (zs : List (Addr × Pr)), vs = [V.ref a] ∧ SqL K H a (zs.map fun z => V.ref z.1) ∧ (∀ z ∈ zs, SqT K H z.1 (prV z.2)) ∧
  ∀ (ys : List (Addr × Pr)) (p : Addr), ys.Perm zs → (ys.map (·.2)).Pairwise (fun a b => SrtO.lexB b a = false) → H p = none → Q (.ref p) (upd H p (.lst (ys.map fun z => V.ref z.1)))
theorem perm_lift {α β : Type} {f : α → β} : ∀ {l m : List β}, l.Perm m → ∀ {zs : List α}, m = zs.map f → ∃ ys : List α, ys.Perm zs ∧ l = ys.map f := by
  intro l m h
  induction h with
  | nil => intro zs e; cases zs with | nil => exact ⟨[], .refl _, rfl⟩ | cons _ _ => cases e
  | cons x _ ih =>
    intro zs e
    cases zs with
    | nil => cases e
    | cons z zs =>
      rw [List.map_cons] at e
      obtain ⟨e1, e2⟩ := List.cons.inj e
      obtain ⟨ys, h1, h2⟩ := ih e2
      exact ⟨z :: ys, h1.cons z, by rw [List.map_cons, ← h2, e1]⟩
  | swap x y l =>
    intro zs e
    match zs, e with
    | [], e => cases e
    | [_], e => cases e
    | z1 :: z2 :: zs, e =>
      simp only [List.map_cons, List.cons.injEq] at e
      obtain ⟨e1, e2, e3⟩ := e
      exact ⟨z2 :: z1 :: zs, .swap .., by simp [e1, e2, e3]⟩
  | trans _ _ ih1 ih2 =>
    intro zs e
    obtain ⟨ys, h1, h2⟩ := ih2 e
    obtain ⟨xs, h3, h4⟩ := ih1 h2
    exact ⟨xs, h3.trans h1, h4⟩
open Classical in
noncomputable def keyAt (zs : List (Addr × Pr)) (u : Value) : Pr := if h : ∃ z ∈ zs, u = Value.ref z.1 then (Classical.choose h).2 else (0, 0)
theorem keyAt_eq {zs : List (Addr × Pr)} (uq : ∀ z ∈ zs, ∀ y ∈ zs, z.1 = y.1 → z.2 = y.2) {z : Addr × Pr} (hz : z ∈ zs) : keyAt zs (.ref z.1) = z.2 := by
  have hx : ∃ y ∈ zs, Value.ref z.1 = Value.ref y.1 := ⟨z, hz, rfl⟩
  unfold keyAt
  rw [dif_pos hx]
  obtain ⟨h1, h2⟩ := Classical.choose_spec hx
  exact uq _ h1 z hz (Value.ref.inj h2).symm
section
variable {X : Cx}
theorem vals_addrs : ∀ {zs : List (Addr × Pr)} {us : List Value}, Vals (zs.map fun z => V.ref z.1) us → us = zs.map fun z => Value.ref z.1
  | [], _, .nil => rfl
  | z :: r, _, .cons h t => by
    cases h
    rw [vals_addrs t]; rfl
theorem vals_addrs' : ∀ zs : List (Addr × Pr), Vals (zs.map fun z => V.ref z.1) (zs.map fun z => Value.ref z.1)
  | [] => .nil
  | z :: r => .cons rfl (vals_addrs' r)
theorem cr_sortPr : CallR X (.builtin "sorted") (rSortPr X.K) := by
  intro pins s σ H vs us Q I r h
  obtain ⟨a, zs, rfl, hl, ht, q⟩ := h
  rw [Vals.ref1 r]
  obtain ⟨its, rv, pl, hz⟩ := I.list hl
  have ei : its = zs.map fun z => Value.ref z.1 := vals_addrs rv
  have uq : ∀ z ∈ zs, ∀ y ∈ zs, z.1 = y.1 → z.2 = y.2 := fun z h1 y h2 e => by
    have s1 := ht z h1
    rw [e] at s1
    have := I.tuple_inj s1 (ht y h2)
    simp only [prV, List.cons.injEq, V.int.injEq, and_true] at this
    exact Prod.ext this.1 this.2
  have hlen : its.length ≤ sizeLine := by rw [← rv.length]; exact hz
  refine SrtO.sorted_pairsO (k := keyAt zs) pl.isList hlen (fun v hv => ?_) fun h' d out sorted stable keep fresh place => ?_
  · rw [ei] at hv
    obtain ⟨z, hz', rfl⟩ := List.mem_map.mp hv
    rw [keyAt_eq uq hz']
    obtain ⟨its2, r2, ⟨o, ho, hc, n, hd⟩, _⟩ := I.tuple (ht z hz')
    cases r2 with | cons c1 r2 => cases r2 with | cons c2 r2 =>
      cases r2
      obtain ⟨t1, rfl⟩ := c1
      obtain ⟨t2, rfl⟩ := c2
      exact ⟨z.1, o, t1, t2, n, rfl, ho, hc, hd⟩
  · obtain ⟨ys, py, ey⟩ := perm_lift stable.perm ei
    obtain ⟨n, place⟩ := place
    have hn : H d = none := I.hok.fresh fresh
    have hly : (ys.map fun z => V.ref z.1).length ≤ sizeLine := by rw [List.length_map, py.length_eq]; rw [List.length_map] at hz; exact hz
    refine ⟨.ref d, upd H d (.lst (ys.map fun z => V.ref z.1)), I.laid (t' := s.toks) keep fresh ⟨hly, out, n, ?_, place⟩, rfl, q ys d py ?_ hn⟩
    · rw [ey]; exact vals_addrs' ys
    · rw [ey] at sorted
      rw [List.pairwise_map]
      refine (List.pairwise_map.mp sorted).imp_of_mem fun {x y} hx hy w => ?_
      have w : SrtO.lexB (keyAt zs (.ref y.1)) (keyAt zs (.ref x.1)) = false := w
      rw [keyAt_eq uq (py.mem_iff.mp hx), keyAt_eq uq (py.mem_iff.mp hy)] at w
      exact w
end
def fSorted : PyData → Option PyData
  | .list ds => match intsD ds with
    | some ns => some (.list ((ssort ltI ns).map .int))
    | none => (prs ds).map fun ps => .list ((ssort SrtO.lexB ps).map prD)
  | _ => none
section
variable {X : Cx} {Wx : WX}
theorem o_sorted : OpA X Wx (gA1 fSorted) (fun xs H Q => rSortedI X.K xs H Q ∨ rSortPr X.K xs H Q) := opA1 (r := fun x H Q => rSortedI X.K [x] H Q ∨ rSortPr X.K [x] H Q) (op1_of fun σ H G ad st v w x d Q rs rv e1 e h => by
  unfold fSorted at e
  split at e
  · obtain ⟨p, vs, rfl, s1, r1⟩ := der_lst rs rv e1
    split at e
    · rename_i ns e2
      cases e
      obtain rfl := ints_rel r1 e2
      refine .inl ⟨p, ns, rfl, s1, fun ns' p' hp hs hn => ?_⟩
      have e3 : ns' = ssort ltI ns := srt_uniq lin_int (hs.imp fun {a b} q => by simp [ltI]; omega) (ssort_sorted lin_int ns) (hp.trans (ssort_perm ns).symm)
      rw [e3]
      exact h.newLst rs (dvAll_ints _) p' hn
    · obtain ⟨ps, e2, rfl⟩ := Option.map_eq_some_iff.mp e
      obtain ⟨zs, rfl, rfl, hz⟩ := prs_rel r1 e2
      refine .inr ⟨p, zs, rfl, s1, fun z m => Le.sqT rs.sub (hz z m), fun ys p' hp hs hn => ?_⟩
      have e3 : ys.map (·.2) = ssort SrtO.lexB (zs.map (·.2)) := srt_uniq lin_pr hs (ssort_sorted lin_pr _) ((hp.map _).trans (ssort_perm _).symm)
      rw [← e3] at h
      exact h.newLst rs (dvAll_prs ys fun z m => hz z (hp.mem_iff.mp m)) p' hn
  · cases e) fun _ _ _ h => h
end
end Fx

namespace Fx
open PySem PySem.Spec L2
open PyProof.Rows hiding St

/-! ### len(set(xs)), sorted(set(xs)) -/
/-- a set of ints, of which only the number is asked -/
def SetC (C : Wd) (a : Addr) (S : Int → Bool) (n : Nat) : HO := .ext fun h => h.SetOf (intKind C.P C.w) a S n
theorem setC_ok {C : Wd} {H : Hp} {h : Heap} {a : Addr} {S : Int → Bool} {n : Nat} (R : h.SetOf (intKind C.P C.w) a S n) : ObjOk C.P C.w H h a (SetC C a S n) := by
  refine ⟨R, ?_, fun h1 h2 p k => ?_⟩
  · obtain ⟨o, es, ep, t, ho, _⟩ := R; exact ⟨o, ho⟩
  · obtain ⟨o, es, ep, t, ho, q⟩ := p; exact ⟨o, es, ep, t, k o ho, q⟩
theorem mem_dd {x : Int} : ∀ (l acc : List Int), x ∈ l.foldl PyProof.Rows.step_dedup acc ↔ x ∈ acc ∨ x ∈ l
  | [], acc => by simp
  | a :: r, acc => by
    rw [List.foldl_cons, mem_dd r]
    unfold PyProof.Rows.step_dedup
    split
    · rename_i h
      obtain ⟨y, hy, e⟩ := List.any_eq_true.mp h
      have e : y = a := eq_of_beq e
      subst e
      constructor
      · rintro (h | h) <;> simp [h]
      · rintro (h | h)
        · exact .inl h
        · rcases List.mem_cons.mp h with rfl | h
          · exact .inl hy
          · exact .inr h
    · rw [List.mem_append, List.mem_singleton, List.mem_cons, or_assoc]
theorem nodup_dd : ∀ (l acc : List Int), acc.Nodup → (l.foldl PyProof.Rows.step_dedup acc).Nodup
  | [], acc, h => h
  | a :: r, acc, h => by
    rw [List.foldl_cons]
    refine nodup_dd r _ ?_
    unfold PyProof.Rows.step_dedup
    split
    · exact h
    · rename_i hn
      rw [List.nodup_append]
      refine ⟨h, by simp, fun x hx y hy => ?_⟩
      rw [List.mem_singleton] at hy
      subst hy
      intro e
      subst e
      exact hn (List.any_eq_true.mpr ⟨x, hx, beq_self_eq_true x⟩)
theorem range_getD (ns : List Int) : (List.range ns.length).map (fun i => ns.getD i 0) = ns := by
  apply List.ext_getElem?
  intro i
  rw [List.getElem?_map]
  by_cases h : i < ns.length
  · rw [List.getElem?_range h, List.getElem?_eq_getElem h, Option.map_some, List.getD_eq_getElem?_getD, List.getElem?_eq_getElem h]; rfl
  · rw [List.getElem?_eq_none (by simpa using h), List.getElem?_eq_none (by simpa using h)]; rfl
theorem firstMet_dd (ns : List Int) : PyProof.Rows.firstMet (fun i => ns.getD i 0) ns.length = ns.foldl PyProof.Rows.step_dedup [] := by
  unfold PyProof.Rows.firstMet
  rw [range_getD]
theorem dd_len (ns : List Int) : (ns.foldl PyProof.Rows.step_dedup []).length = (usort ltI ns).length :=
  len_eq_of_nodup (nodup_dd ns [] List.nodup_nil) (strict_nodup lin_int (usort_sorted lin_int ns)) fun x => by rw [mem_dd, mem_usort]; simp
section
variable {X : Cx}
/-- set(xs), ints: a list, to be counted; a tuple, to be sorted as well -/
def rSetL (K : PySem.W.Frag) (C : Wd) : List V → Hp → VK → Prop := fun xs H Q => ∃ (l : Addr) (ns : List Int), xs = [V.ref l] ∧ SqL K H l (ns.map V.int) ∧ ns.length < 64 ∧ ∀ a S, H a = none → Q (.ref a) (upd H a (SetC C a S (usort ltI ns).length))
theorem cr_setL (hc : X.calm = true) : CallR X (.type "set") (rSetL X.K (wd X)) := by
  intro pins s σ H xs us Q I r h
  obtain ⟨l, ns, rfl, hl, hf, q⟩ := h
  rw [Vals.ref1 r]
  obtain ⟨its, rv, pl, hz⟩ := I.list hl
  have hsz : its.toArray.size = ns.length := by rw [List.size_toArray, ← rv.length, List.length_map]
  refine call_set_list (ns := ns) (I.ok.hd hc) pl.isList (by simpa using rv.ints) (by rw [hsz]; unfold scanBound; omega) fun h' tk hS hk => ?_
  rw [hsz, firstMet_dd, dd_len] at hS
  have hn : H s.heap.objs.size = none := I.hok.fresh (Nat.le_refl _)
  exact ⟨.ref _, upd H s.heap.objs.size (SetC (wd X) s.heap.objs.size _ _), I.laid (t' := tk) (fun b o e => hk b o (Heap.lt_size e) e) (Nat.le_refl _) (setC_ok (C := wd X) hS), rfl, q _ _ hn⟩
def rSetT (K : PySem.W.Frag) (w : World) : List V → Hp → VK → Prop := fun xs H Q => ∃ (l : Addr) (ns : List Int), xs = [V.ref l] ∧ SqT K H l (ns.map V.int) ∧ ns.length < 64 ∧ ∀ a n, H a = none → n ≤ ns.length → Q (.ref a) (upd H a (SetO w a (fun j => decide (j ∈ ns)) n))
theorem cr_setT (hc : X.calm = true) : CallR X (.type "set") (rSetT X.K X.w) := by
  intro pins s σ H xs us Q I r h
  obtain ⟨l, ns, rfl, hl, hf, q⟩ := h
  rw [Vals.ref1 r]
  obtain ⟨its, rv, pl, hz⟩ := I.tuple hl
  refine call_set_tupI ns (I.ok.hd hc) pl (by simpa using rv.ints) (by unfold scanBound; omega) fun h' tk c R hle hk => ?_
  exact ⟨.ref _, upd H s.heap.objs.size (SetO X.w s.heap.objs.size _ c), I.laid (t' := tk) hk (Nat.le_refl _) (setO_new R), rfl, q _ c (I.hok.fresh (Nat.le_refl _)) hle⟩
/-- len of a set -/
def rLenC (C : Wd) : List V → Hp → VK → Prop := fun xs H Q => ∃ (a : Addr) (S : Int → Bool) (n : Nat), xs = [V.ref a] ∧ H a = some (SetC C a S n) ∧ n < 64 ∧ Q (.int n) H
theorem cr_lenC : CallR X (.builtin "len") (rLenC (wd X)) := by
  intro pins s σ H xs us Q I r h
  obtain ⟨a, S, n, rfl, ha, hn, q⟩ := h
  rw [Vals.ref1 r]
  obtain ⟨o, es, ep, t, ho, hex, hd, _, _, _, hf, hsz⟩ : s.heap.SetOf (intKind X.prog X.w) a S n := (I.hok a _ ha).1
  exact call_len_set ho hex hd hf (by omega) ⟨.int n, H, I.tok _, ⟨_, by rw [hsz]⟩, q⟩
def rLenO (w : World) : List V → Hp → VK → Prop := fun xs H Q => ∃ (a : Addr) (ns : List Int) (n : Nat), xs = [V.ref a] ∧ H a = some (SetO w a (fun j => decide (j ∈ ns)) n) ∧ n < 64 ∧ (n = (usort ltI ns).length → Q (.int n) H)
theorem cr_lenO : CallR X (.builtin "len") (rLenO X.w) := by
  intro pins s σ H xs us Q I r h
  obtain ⟨a, ns, n, rfl, ha, hn, q⟩ := h
  rw [Vals.ref1 r]
  obtain ⟨o, es, ep, t, ho, hex, hd, hg, hnd, hm, hb, hf, hsz, _⟩ : SetR X.w s.heap a _ n := (I.hok a _ ha).1
  refine call_len_set ho hex hd hf (by omega) ⟨.int n, H, I.tok _, ⟨_, by rw [hsz]⟩, q ?_⟩
  have e : (es.toList.map keyOf).length = n := by rw [List.length_map, Array.length_toList]; exact hsz
  rw [← e]
  exact len_eq_of_nodup hnd (strict_nodup lin_int (usort_sorted lin_int ns)) fun x => by rw [← hm x, mem_usort]; simp
def rLenT (K : PySem.W.Frag) (P : Program) (w : World) : List V → Hp → VK → Prop := fun xs H Q => ∃ (a : Addr) (L : List (Addr × List Int)), xs = [V.ref a] ∧ H a = some (SetTO P w a L) ∧ (∀ p ∈ L, SqT K H p.1 (p.2.map V.int)) ∧ ((L.map (·.2)).Nodup → Q (.int L.length) H)
theorem cr_lenT : CallR X (.builtin "len") (rLenT X.K X.prog X.w) := by
  intro pins s σ H xs us Q I r h
  obtain ⟨a, L, rfl, ha, hk, q⟩ := h
  rw [Vals.ref1 r]
  have R0 : SetT0 X.prog X.w s.heap a L := (I.hok a _ ha).1
  obtain ⟨es, ep, t, R⟩ := R0.full fun p hp => I.isT (hk p hp)
  obtain ⟨o, ho, hex, hd⟩ := R.ob
  have few := R.few
  have hsz := R.size
  exact call_len_set ho hex hd R.fits (by omega) ⟨.int L.length, H, I.tok _, ⟨_, by rw [hsz]⟩, q R.nd⟩
end
end Fx

namespace Fx
open PySem PySem.Spec L2
open PyProof.Rows hiding St

def zK (z : Addr × Pr) : Addr × List Int := (z.1, [z.2.1, z.2.2])
theorem lift_sub {α β : Type} {f : α → β} {zs : List α} : ∀ {L : List β}, (∀ q ∈ L, ∃ z ∈ zs, f z = q) → ∃ ys : List α, L = ys.map f ∧ ∀ y ∈ ys, y ∈ zs
  | [], _ => ⟨[], rfl, fun y h => (List.not_mem_nil h).elim⟩
  | q :: L, h => by
    obtain ⟨z, hz, e⟩ := h q List.mem_cons_self
    obtain ⟨ys, e2, h2⟩ := lift_sub (f := f) (zs := zs) (L := L) fun q hq => h q (List.mem_cons_of_mem _ hq)
    refine ⟨z :: ys, by rw [List.map_cons, e, ← e2], fun y hy => ?_⟩
    rcases List.mem_cons.mp hy with rfl | hy
    · exact hz
    · exact h2 y hy
theorem Post.aside {X : Cx} {Wx : WX} {G : Hp} {ad : List Addr} {H : Hp} {σ : L2.St} {st : Sto} {r : R W} {Q : VK} (h : Post X Wx G ad H σ (relW X) r Q) (rs : RepS (wd X) G ad st H) {a : Addr} {o : HO} (ha : H a = none) :
    Post X Wx G ad (upd H a o) σ (relW X) r Q ∧ RepS (wd X) G ad st (upd H a o) :=
  ⟨h.mono (Step.refl.fresh ha), rs.other (rs.sub.none ha) fun z => by obtain ⟨o, e⟩ := rs.there z; rw [ha] at e; cases e⟩
def rSet3 (K : PySem.W.Frag) (C : Wd) : List V → Hp → VK → Prop := fun xs H Q => rSetL K C xs H Q ∨ (rSetT K C.w xs H Q ∨ rSetOfT K C.P C.w xs H Q)
def rLen3 (K : PySem.W.Frag) (C : Wd) : List V → Hp → VK → Prop := fun xs H Q => rLenC C xs H Q ∨ (rLenO C.w xs H Q ∨ rLenT K C.P C.w xs H Q)
def rSrt2 (K : PySem.W.Frag) (C : Wd) : List V → Hp → VK → Prop := fun xs H Q => rSortedSet C.w xs H Q ∨ rSortedT K C.P C.w xs H Q
def fLenSet : PyData → Option PyData
  | .list ds => match intsD ds with
    | some ns => if ns.length < 64 then some (.int (usort ltI ns).length) else none
    | none => match prs ds with
      | some ps => if ps.length < 64 then some (.int (usort SrtO.lexB ps).length) else none
      | none => none
  | .tuple ds => match intsD ds with
    | some ns => if ns.length < 64 then some (.int (usort ltI ns).length) else none
    | none => none
  | _ => none
def pr64 (p : Pr) : Bool := decide (0 ≤ p.1) && decide (p.1 < 64) && decide (0 ≤ p.2) && decide (p.2 < 64)
def fSortSet : PyData → Option PyData
  | .list ds => match prs ds with
    | some ps => if ps.length < 64 ∧ ps.all pr64 = true then some (.list ((usort SrtO.lexB ps).map prD)) else none
    | none => none
  | .tuple ds => match intsD ds with
    | some ns => if ns.length < 64 then some (.list ((usort ltI ns).map .int)) else none
    | none => none
  | _ => none
theorem zK_tup {C : Wd} {G H : Hp} {zs : List (Addr × Pr)} (le : Le G H) (h : ∀ z ∈ zs, SqT C.K G z.1 (prV z.2)) : ∀ p ∈ zs.map zK, SqT C.K H p.1 (p.2.map V.int) := fun p hp => by
  obtain ⟨z, hz, rfl⟩ := List.mem_map.mp hp
  exact Le.sqT le (h z hz)
theorem zK_inj {x y : Pr} (h : ([x.1, x.2] : List Int) = [y.1, y.2]) : x = y := by
  simp only [List.cons.injEq, and_true] at h
  exact Prod.ext h.1 h.2
/-- the members of a set of pairs, as pairs -/
theorem zK_mem {zs ys : List (Addr × Pr)} (h1 : ∀ y ∈ ys, y ∈ zs) (h2 : ∀ p ∈ zs.map zK, p.2 ∈ (ys.map zK).map (·.2)) (x : Pr) : x ∈ ys.map (·.2) ↔ x ∈ zs.map (·.2) := by
  constructor
  · intro h
    obtain ⟨y, hy, rfl⟩ := List.mem_map.mp h
    exact List.mem_map.mpr ⟨y, h1 y hy, rfl⟩
  · intro h
    obtain ⟨z, hz, rfl⟩ := List.mem_map.mp h
    have q := h2 _ (List.mem_map.mpr ⟨z, hz, rfl⟩)
    rw [List.map_map] at q
    obtain ⟨y, hy, e⟩ := List.mem_map.mp q
    exact List.mem_map.mpr ⟨y, hy, zK_inj e⟩
section
variable {X : Cx} {Wx : WX}
theorem o_lenSet : Op1 X Wx (g1 fLenSet) (fun v H Q => rSet3 X.K (wd X) [v] H fun x H2 => rLen3 X.K (wd X) [x] H2 Q) := op1_of fun σ H G ad st v w x d Q rs rv e1 e h => by
  unfold fLenSet at e
  split at e
  · obtain ⟨p, vs, rfl, s1, r1⟩ := der_lst rs rv e1
    split at e
    · rename_i ns e2
      split at e
      · rename_i hz
        cases e
        obtain rfl := ints_rel r1 e2
        refine .inl ⟨p, ns, rfl, s1, hz, fun a S ha => .inl ⟨a, S, _, rfl, upd_same, ?_, ?_⟩⟩
        · have hle : (usort ltI ns).length ≤ ns.length := by rw [← dd_len, ← firstMet_dd]; exact PyProof.Rows.firstMet_length_le _ _
          omega
        · obtain ⟨h', rs'⟩ := h.aside rs (o := SetC (wd X) a S (usort ltI ns).length) ha
          exact h'.val rs' (.int _)
      · cases e
    · split at e
      · rename_i ps e3
        split at e
        · rename_i hz
          cases e
          obtain ⟨zs, rfl, rfl, hzs⟩ := prs_rel r1 e3
          rw [List.length_map] at hz
          refine .inr (.inr ⟨p, zs.map zK, rfl, ?_, zK_tup (C := wd X) rs.sub hzs, by rw [List.length_map]; exact hz, fun a L ha hs hc => .inr (.inr ⟨a, L, rfl, upd_same, fun q hq => ?_, fun nd => ?_⟩)⟩)
          · rw [List.map_map]; exact s1
          · obtain ⟨z, hz', e⟩ := List.mem_map.mp (hs q hq)
            have t := zK_tup (C := wd X) rs.sub hzs q (hs q hq)
            exact Le.sqT (Le.upd ha) t
          · obtain ⟨ys, rfl, hy⟩ := lift_sub (f := zK) (zs := zs) (L := L) fun q hq => List.mem_map.mp (hs q hq)
            obtain ⟨h', rs'⟩ := h.aside rs (o := SetTO X.prog X.w a (ys.map zK)) ha
            have el : (usort SrtO.lexB (zs.map (·.2))).length = (ys.map zK).length := by
              have nd2 : (ys.map (·.2)).Nodup := by
                rw [List.map_map] at nd
                refine List.Pairwise.map _ (fun a b q => ?_) (List.pairwise_map.mp nd)
                exact fun z => q (by show [a.2.1, a.2.2] = [b.2.1, b.2.2]; rw [z])
              have q := len_eq_of_nodup nd2 (strict_nodup lin_pr (usort_sorted lin_pr (zs.map (·.2)))) fun x => by rw [mem_usort]; exact zK_mem hy hc x
              rw [← q, List.length_map, List.length_map]
            rw [el] at h'
            exact h'.val rs' (.int _)
        · cases e
      · cases e
  · obtain ⟨p, vs, rfl, s1, r1, _⟩ := der_tup rs rv e1
    split at e
    · rename_i ns e2
      split at e
      · rename_i hz
        cases e
        obtain rfl := ints_rel r1 e2
        refine .inr (.inl ⟨p, ns, rfl, s1, hz, fun a n ha hn => .inr (.inl ⟨a, ns, n, rfl, upd_same, by omega, fun en => ?_⟩)⟩)
        obtain ⟨h', rs'⟩ := h.aside rs (o := SetO X.w a (fun j => decide (j ∈ ns)) n) ha
        rw [en]
        rw [en] at rs' h'
        exact h'.val rs' (.int _)
      · cases e
    · cases e
  · cases e
theorem o_sortSet : Op1 X Wx (g1 fSortSet) (fun v H Q => rSet3 X.K (wd X) [v] H fun x H2 => rSrt2 X.K (wd X) [x] H2 Q) := op1_of fun σ H G ad st v w x d Q rs rv e1 e h => by
  unfold fSortSet at e
  split at e
  · obtain ⟨p, vs, rfl, s1, r1⟩ := der_lst rs rv e1
    split at e
    · rename_i ps e3
      split at e
      · rename_i hz
        obtain ⟨hz, hb⟩ := hz
        cases e
        obtain ⟨zs, rfl, rfl, hzs⟩ := prs_rel r1 e3
        rw [List.length_map] at hz
        refine .inr (.inr ⟨p, zs.map zK, rfl, ?_, zK_tup (C := wd X) rs.sub hzs, by rw [List.length_map]; exact hz, fun a L ha hs hc => ?_⟩)
        · rw [List.map_map]; exact s1
        · obtain ⟨ys, rfl, hy⟩ := lift_sub (f := zK) (zs := zs) (L := L) fun q hq => List.mem_map.mp (hs q hq)
          obtain ⟨h', rs'⟩ := h.aside rs (o := SetTO X.prog X.w a (ys.map zK)) ha
          have bd : ∀ z ∈ zs, (0 ≤ z.2.1 ∧ z.2.1 < 64) ∧ 0 ≤ z.2.2 ∧ z.2.2 < 64 := fun z hz' => by
            have q := List.all_eq_true.mp hb z.2 (List.mem_map.mpr ⟨z, hz', rfl⟩)
            simp [pr64] at q
            exact ⟨⟨q.1.1.1, q.1.1.2⟩, q.1.2, q.2⟩
          refine .inr ⟨a, ys.map zK, 2, 64, rfl, upd_same, fun q hq => ?_, by decide, fun q hq => ?_, fun L' p' hp hn hl hw hp' => ?_⟩
          · obtain ⟨y, hy', rfl⟩ := List.mem_map.mp hq
            exact Le.sqT (Le.upd ha) (Le.sqT rs.sub (hzs y (hy y hy')))
          · obtain ⟨y, hy', rfl⟩ := List.mem_map.mp hq
            obtain ⟨b1, b2⟩ := bd y (hy y hy')
            refine ⟨rfl, fun m hm => ?_⟩
            simp only [zK, List.mem_cons, List.not_mem_nil, or_false] at hm
            rcases hm with rfl | rfl
            · exact b1
            · exact b2
          · obtain ⟨us, pu, rfl⟩ := perm_lift hp rfl
            have hu : ∀ u ∈ us, u ∈ zs := fun u hu => hy u (pu.mem_iff.mp hu)
            have ms : ∀ x, x ∈ us.map (·.2) ↔ x ∈ zs.map (·.2) := fun x => ((pu.map (·.2)).mem_iff).trans (zK_mem hy hc x)
            have e3 : us.map (·.2) = usort SrtO.lexB (zs.map (·.2)) := by
              refine strict_uniq lin_pr ?_ (usort_sorted lin_pr _) fun x => by rw [mem_usort]; exact ms x
              rw [List.pairwise_map] at hw ⊢
              rw [List.map_map] at hn
              have hn := List.pairwise_map.mp hn
              refine (hw.and hn).imp_of_mem fun {x y} hx hy' q => ?_
              obtain ⟨b1, b2⟩ := bd x (hu x hx)
              obtain ⟨b3, b4⟩ := bd y (hu y hy')
              exact SrtO.lexB_iff.mpr (pair_lt q.1 q.2 b1 b2 b3 b4)
            rw [List.map_map]
            rw [← e3] at h'
            exact h'.newLst rs' (dvAll_prs us fun z m => hzs z (hu z m)) p' hp'
      · cases e
    · cases e
  · obtain ⟨p, vs, rfl, s1, r1, _⟩ := der_tup rs rv e1
    split at e
    · rename_i ns e2
      split at e
      · rename_i hz
        cases e
        obtain rfl := ints_rel r1 e2
        refine .inr (.inl ⟨p, ns, rfl, s1, hz, fun a n ha hn => .inl ⟨a, _, n, rfl, upd_same, by omega, fun ns' p' hs hm hl hp' => ?_⟩⟩)
        obtain ⟨h', rs'⟩ := h.aside rs (o := SetO X.w a (fun j => decide (j ∈ ns)) n) ha
        have e3 : ns' = usort ltI ns := strict_uniq lin_int (hs.imp fun {a b} q => by simp [ltI]; omega) (usort_sorted lin_int ns) fun x => by rw [hm x, mem_usort]; simp
        rw [e3]
        exact h'.newLst rs' (dvAll_ints _) p' hp'
      · cases e
    · cases e
  · cases e
variable {p p2 q pos : Pos} {a : Expr} {Fa : EF}
theorem cr_set3 (hc : X.calm = true) (hu : Hu X) : CallR X (.type "set") (rSet3 X.K (wd X)) := CallR.or (cr_setL hc) (CallR.or (cr_setT hc) (cr_setOfT hc (by unfold Hu at hu; omega)))
theorem fe_lenSet (hc : X.calm = true) (hu : Hu X) (hg : Gl X "len") (hm : X.mg "len" = none) (hg2 : Gl X "set") (hm2 : X.mg "set" = none) (ha : FE X Wx a Fa) (na : starEach [a] X.env = (false, eval a X.env) :: starEach [] X.env := by rfl)
    (nb : starEach [.Call (.Name "set" p2) [a] [] q] X.env = (false, eval (.Call (.Name "set" p2) [a] [] q) X.env) :: starEach [] X.env := by rfl) : FE X Wx (.Call (.Name "len" p) [.Call (.Name "set" p2) [a] [] q] [] pos) (c1 (g1 fLenSet) Fa) :=
  fe_1 o_lenSet ha fun ta pa => pe_callB (CallR.or cr_lenC (CallR.or cr_lenO cr_lenT)) hg hm PySem.boot_len (pa_cons (pe_callTy (cr_set3 hc hu) hg2 hm2 PyProof.Rows.boot_set (pa_cons pa pa_nil na) (by decide) (by decide) na rfl) pa_nil nb) (by decide) (by decide) nb rfl
theorem fe_sortSet (hc : X.calm = true) (hu : Hu X) (hg : Gl X "sorted") (hm : X.mg "sorted" = none) (hg2 : Gl X "set") (hm2 : X.mg "set" = none) (ha : FE X Wx a Fa) (na : starEach [a] X.env = (false, eval a X.env) :: starEach [] X.env := by rfl)
    (nb : starEach [.Call (.Name "set" p2) [a] [] q] X.env = (false, eval (.Call (.Name "set" p2) [a] [] q) X.env) :: starEach [] X.env := by rfl) : FE X Wx (.Call (.Name "sorted" p) [.Call (.Name "set" p2) [a] [] q] [] pos) (c1 (g1 fSortSet) Fa) :=
  fe_1 o_sortSet ha fun ta pa => pe_callB (CallR.or (cr_sortedSet hc) (cr_sortedT hc)) hg hm PyProof.Rows.boot_sorted (pa_cons (pe_callTy (cr_set3 hc hu) hg2 hm2 PyProof.Rows.boot_set (pa_cons pa pa_nil na) (by decide) (by decide) na rfl) pa_nil nb) (by decide) (by decide) nb rfl
end
end Fx

namespace Fx
open PySem PySem.Spec L2
open PyProof.Rows hiding St

/-! ### calls without arguments, calls with defaults -/
section
variable {X : Cx} {Wx : WX} {x : Str} {p pos : Pos} {e : Expr} {es : List Expr} {FAs : AF} {k : Nat} {f : Addr} {fd : FuncData} {ps : List Str} {den : Den}
theorem fe_call0 (Fn : FnOk X.prog X.w X.K X.mg X.base (L2N.CX X.prog X.w) k f fd ps (spD (wd X) X.mg 0 den)) (tk : L2N.Takes X Wx) (hr : Room k X.A) (hg : Gl X x) (hm : X.mg x = some (.ref f)) (hk : PySem.W.keepIn X.K (.ref f) = true) (hb : Binds X.K fd ps [])
    (hdb : (x == ("__debug__" : Str)) = false := by decide) : FE X Wx (.Call (.Name x p) [] [] pos) (fun _ st => den [] st) := by
  refine ⟨fun σ H Q => spD (wd X) X.mg 0 den [] H Q (WE Wx σ), ⟨fun pins s σ H Q I h => wpAny_Call_Name_kw (ld_glob I hg hm (PySem.W.callWith_K0 I.kIn hk (run_fnSD (us := []) (vs := []) (dvs := []) Fn hr hb .nil (L2N.passAt tk σ) I .nil h)) hdb)⟩, fun σ H G ad ρ st Q rs rl h => ?_⟩
  refine ⟨rfl, G, ad, st, [], rs, .nil, ?_⟩
  have h : Post X Wx G ad H σ (relW X) (den [] st) Q := h
  generalize den [] st = r at h
  cases r <;> exact h
theorem fe_callD {ds : List Value} {dvs : List V} {dd : List PyData} (Fn : FnOk X.prog X.w X.K X.mg X.base (L2N.CX X.prog X.w) k f fd ps (spD (wd X) X.mg ps.length den)) (tk : L2N.Takes X Wx) (hr : Room k X.A) (hg : Gl X x) (hm : X.mg x = some (.ref f)) (hk : PySem.W.keepIn X.K (.ref f) = true) (hb : Binds X.K fd ps ds)
    (hd : Vals dvs ds) (hv : ∀ G, DvAll (wd X) G dvs dd) (hn : (e :: es).length + dd.length = ps.length) (ha : FA X Wx (e :: es) FAs) (hdb : (x == ("__debug__" : Str)) = false := by decide) (he : starEach (e :: es) X.env = (false, eval e X.env) :: starEach es X.env := by rfl) (hpl : (backTo pos (starEach es X.env)).any (·.1) = false := by rfl) :
    FE X Wx (.Call (.Name x p) (e :: es) [] pos) (cA (fun ws st => den (ws ++ dd.map .d) st) FAs) := by
  obtain ⟨t, pa, ka, hl⟩ := ha
  refine ⟨_, pe_callSD Fn hr hg hm hk hb hd (fun σ => L2N.passAt tk σ) pa hdb he hpl, fun σ H G ad ρ st Q rs rl h => ?_⟩
  refine ka σ H G ad ρ st _ rs rl (Post.bind h fun ws st1 vs G1 ad1 H1 e1 s1 rs1 rv q => ?_)
  have hd2 : ∀ {vs : List V} {dd : List PyData}, DvAll (wd X) G1 vs dd → WvAll (wd X) G1 ad1 vs (dd.map .d) := by
    intro vs dd r
    induction dd generalizing vs with
    | nil => cases r; exact .nil
    | cons d dd ih => cases r with | cons h r => exact .cons (.d h) (ih r)
  have l1 := WvAll.length rv
  have l2 := (hv G1).length
  have l3 := hl _ _ _ _ e1
  refine ⟨by rw [List.length_append, l1, l2, l3, hn], G1, ad1, st1, _, rs1, WvAll.append rv (hd2 (hv G1)), ?_⟩
  generalize den (ws ++ dd.map .d) st1 = r at q
  cases r <;> exact q
end

/-! ### a def whose answer is a handle (or a list of handles) -/
def finFH (n : Nat) : SR → R W
  | .nx _ st => .ok (.d .none) st
  | .rt w st => .ok w st
  | .exc c _ st => .exc c st
  | _ => .bad
def defFH (k : Nat) (F : SF) : Den := fun ws st => finFH st.length (F (ws.map some ++ List.replicate k none) st)
section
variable {P : Program} {w : World} {K : PySem.W.Frag} {mg : Str → Option Value} {base : Heap}
theorem fd_ofH {x qual : Str} {s : Stmt} {f : Addr} {fd : FuncData} {N ps : List Str} {k j : Nat} {F : SF} (Fn : Fun K x qual s f fd) (S : FnScope N ps (defScope s)) (hj : N.length = ps.length + j)
    (hb : ∀ (cdv : Value) (A : Around) (outer : List Env) (s0 : Shared) (H : Hp) (E : XK), Room k (A.deeper (envOfC qual (defScope s) s0.heap.objs.size f cdv)) →
      FSs (cxOf (L2N.CX P w) P w K mg base N qual (defScope s) f cdv A outer s0 H E) (fun cls d _ H => E cls d H) (defBody s) F) :
    FnOk P w K mg base (L2N.CX P w) (k + 1) f fd ps (spD ⟨P, w, K⟩ mg ps.length (defFH j F)) := by
  refine okXN Fn S (fun vs H Q E h => h.1) (fun cdv A outer s0 H vs Q E hr h => ?_)
  obtain ⟨hl, G, ad, st, ws, rs, rv, h⟩ := h
  obtain ⟨t, p, q⟩ := hb cdv A outer s0 H E hr
  refine ⟨t, p, q (L2.start N vs) H G ad (ws.map some ++ List.replicate j none) st _ rs (repL_start rv (by omega)) ?_⟩
  unfold defFH at h
  generalize F (ws.map some ++ List.replicate j none) st = r at h ⊢
  cases r with
  | nx ρ' st' => exact fun σ' G' ad' H' s' rs' _ => h _ _ _ _ s' rs' (.d .non)
  | rt w' st' => exact fun v G' ad' H' s' rs' rv' => h _ _ _ _ s' rs' rv'
  | exc c ρ' st' =>
    obtain ⟨C, m, q⟩ := h
    exact ⟨C, m, fun σ' G' ad' H' s' rs' _ => q _ _ _ s' rs'⟩
  | bk => exact h.elim
  | ct => exact h.elim
  | bad => exact h.elim
end

/-! ### three at once; backwards; one item many times -/
section
variable {X : Cx} {Wx : WX} {FAs : AF} {pos : Pos}
theorem fs_par3 {i j l : Nat} {x y z : Str} {a b c : Expr} {px py pz pt : Pos} {kt k2 pt2} (hc : X.calm = true) (hN : X.N.Nodup) (hi : X.N[i]? = some x) (hj : X.N[j]? = some y) (hl : X.N[l]? = some z) (hij : i ≠ j) (hil : i ≠ l) (hjl : j ≠ l)
    (hx : X.env.scope.names.lookup x = some .local) (hy : X.env.scope.names.lookup y = some .local) (hz : X.env.scope.names.lookup z = some .local) (ha : FA X Wx [a, b, c] FAs)
    (hw : swappedStores [.Tuple [.Name x px, .Name y py, .Name z pz] kt pt] (.Tuple [a, b, c] k2 pt2) X.env = pure (some [x, y, z]))
    (hs : swapsWithSole [.Tuple [.Name x px, .Name y py, .Name z pz] kt pt] (.Tuple [a, b, c] k2 pt2) pos.line X.env = pure false := by rfl) :
    FS X Wx (.Assign [.Tuple [.Name x px, .Name y py, .Name z pz] kt pt] (.Tuple [a, b, c] k2 pt2) pos) (sPar3 i j l FAs) := by
  obtain ⟨t, p, k, _⟩ := ha
  refine ⟨_, ps_par3 hc hN hi hj hl hij hil hjl hx hy hz p hw hs, fun σ H G ad ρ st D rs rl h => ?_⟩
  refine k σ H G ad ρ st _ rs rl (PostS.ex rl h fun w st1 v G1 ad1 H1 s1 rs1 rv q => ?_)
  split at q
  · cases rv with
    | cons r1 rv => cases rv with
      | cons r2 rv => cases rv with
        | cons r3 rv => cases rv; exact ⟨_, _, _, rfl, q _ G1 ad1 H1 .refl rs1 ((((rl.step s1).set r1).set r2).set r3)⟩
  · exact q.elim
end
def fRevL : PyData → Option PyData
  | .list xs => some (.list xs.reverse)
  | _ => none
theorem DvAll.reverse {C : Wd} {G : Hp} : ∀ {vs : List V} {ds : List PyData}, DvAll C G vs ds → DvAll C G vs.reverse ds.reverse
  | _, _, .nil => .nil
  | _, _, .cons h r => by rw [List.reverse_cons, List.reverse_cons]; exact (DvAll.reverse r).append (.one h)
section
variable {X : Cx} {Wx : WX} {e : Expr} {Fe : EF} {p1 p2 p3 pos : Pos} {k : Nat}
theorem fe_revL (he : FE X Wx e Fe) : FE X Wx (.Subscript e (.Slice none none (some (.UnaryOp .USub (.Constant (.int 1) k p1) p2)) p3) pos) (c1 (g1 fRevL) Fe) :=
  fe_1 (r := fun x H Q => ∃ a xs, x = .ref a ∧ SqL X.K H a xs ∧ ∀ p, H p = none → Q (.ref p) (upd H p (.lst xs.reverse))) (op1_of fun σ H G ad st v w x d Q rs rv e1 e h => by
    unfold fRevL at e
    split at e
    · cases e
      obtain ⟨p, vs, rfl, s1, r1⟩ := der_lst rs rv e1
      exact ⟨p, vs, rfl, s1, h.newLst rs r1.reverse⟩
    · cases e) he fun _ q => pe_revL q
end
end Fx

namespace Fx
open PySem PySem.Spec L2
open PyProof.Rows hiding St

/-! ### comprehensions of two clauses -/
/-- the items of one clause, put behind acc -/
def lcR (g : GF) (T : TF) (e : EF) (ρ : Lv) : List W → List W → Sto → R (List W)
  | [], acc, st => .ok acc st
  | w :: ws, acc, st => match g w ρ st with
    | none => .bad
    | some ρ1 => match T ρ1 st with
      | .ok true st1 => match e ρ1 st1 with
        | .ok y st2 => lcR g T e ρ ws (acc ++ [y]) st2
        | _ => .bad
      | .ok false st1 => lcR g T e ρ ws acc st1
      | _ => .bad
def lc2R (g : GF) (T : TF) (it1 : AF) (own1 : List Nat) (g1 : GF) (T1 : TF) (e : EF) (ρ : Lv) : List W → List W → Sto → R (List W)
  | [], acc, st => .ok acc st
  | w :: ws, acc, st => match g w ρ st with
    | none => .bad
    | some ρ1 => match T ρ1 st with
      | .ok true st1 => match it1 ρ1 st1 with
        | .ok ws1 st2 => if acc.length + ws1.length ≤ sizeLine then match lcR g1 T1 e (wipeL ρ1 own1) ws1 acc st2 with
          | .ok acc st3 => lc2R g T it1 own1 g1 T1 e ρ ws acc st3
          | _ => .bad else .bad
        | _ => .bad
      | .ok false st1 => lc2R g T it1 own1 g1 T1 e ρ ws acc st1
      | _ => .bad
def packR (r : R (List W)) : R W := r.bind fun acc st => match packW acc with | some w => .ok w st | none => .bad
def cLc2 (it : AF) (own : List Nat) (g : GF) (T : TF) (it1 : AF) (own1 : List Nat) (g1 : GF) (T1 : TF) (e : EF) : EF := fun ρ st => (it ρ st).bind fun ws st => packR (lc2R g T it1 own1 g1 T1 e (wipeL ρ own) ws [] st)
section
variable {X : Cx} {scope : Scope} {tg iter : Expr} {FI1 : AF}
theorem blk_i (h : Blk X scope fun Y => FI Y W0 tg iter FI1) : ∃ ti, (Blk X scope fun Y => PI Y tg iter ti) ∧ ∀ σ H G ad ρ st (Q : It → Hp → Prop), RepS (wd X) G ad st H → RepL (wd X) G ad ρ σ → Post X W0 G ad H σ (fun G' ad' (J : It) ws => Iters (wd X) G' ad' J ws) (FI1 ρ st) Q → ti σ H Q := by
  refine ⟨fun σ H Q => ∀ (s : Shared) (H0 : Hp) (C : Addr) (cl : List (Str × Addr)) (fp : List Addr), Classical.choose (h s H0 C cl fp) σ H Q, fun s H0 C cl fp => ⟨fun pins s1 σ H R I q => (Classical.choose_spec (h s H0 C cl fp)).1.run pins s1 σ H R I (q s H0 C cl fp)⟩, fun σ H G ad ρ st Q rs rl hp s H0 C cl fp => ?_⟩
  exact (Classical.choose_spec (h s H0 C cl fp)).2 σ H G ad ρ st Q rs rl hp
end
theorem RepL.le {C : Wd} {G G' : Hp} {ad ad' : List Addr} {ρ : Lv} {σ : L2.St} (h : RepL C G ad ρ σ) (g : Le G G') (p : ad <+: ad') : RepL C G' ad' ρ σ := ⟨h.1, fun i w e => let ⟨v, e1, r⟩ := h.2 i w e; ⟨v, e1, r.le g p⟩⟩
section
variable {X : Cx} {Wx : WX} {elt tg iter tg1 iter1 : Expr} {ifs ifs1 : List Expr} {scope : Scope} {own : List (Str × Nat)} {FI' FI1 : AF} {g g1 : GF} {sl sl1 : List Nat} {T T1 : TF} {Fe : EF} {pos : Pos}
theorem fe_lc2 {vs1 : List Nat} (hc : X.calm = true) (hN : X.N.Nodup) (hi : FI X Wx tg iter FI') (ok : BlkOk X.N X.env.scope scope own) (hv : ∀ i ∈ vs1, i ∈ own.map (·.2)) (hg : Blk X scope fun Y => FG Y tg g sl) (ht : Blk X scope fun Y => FTs Y W0 ifs T)
    (hi1 : Blk X scope fun Y => FI Y W0 tg1 iter1 FI1) (hg1 : Blk X scope fun Y => FG Y tg1 g1 sl1) (ht1 : Blk X scope fun Y => FTs Y W0 ifs1 T1) (he : Blk X scope fun Y => FE Y W0 elt Fe) (hsl : ∀ i ∈ sl, i ∈ own.map (·.2)) (hsl1 : ∀ i ∈ sl1, i ∈ vs1)
    (hs : ∀ x, foldedSetIterable iter X.env x = pure x := by intro _; rfl) (hs1 : ∀ env x, foldedSetIterable iter1 env x = pure x := by intro _ _; rfl) : FE X Wx (.ListComp elt [⟨tg, iter, ifs, 0⟩, ⟨tg1, iter1, ifs1, 0⟩] scope pos) (cLc2 FI' (own.map (·.2)) g T FI1 vs1 g1 T1 Fe) := by
  obtain ⟨wi, pi, ki⟩ := hi
  obtain ⟨tg', pg, kg⟩ := blk_g hg
  obtain ⟨tt, pt, kt⟩ := blk_t ht
  obtain ⟨wi1, pi1, ki1⟩ := blk_i hi1
  obtain ⟨tg1', pg1, kg1⟩ := blk_g hg1
  obtain ⟨tt1, pt1, kt1⟩ := blk_t ht1
  obtain ⟨te, pe, ke⟩ := blk_e he
  refine ⟨_, pe_lc2 hc hN pi ok hv pg pt pi1 pg1 pt1 pe hs hs1, fun σ H G ad ρ st Q rs rl h => ?_⟩
  refine ki σ H G ad ρ st _ rs rl (Post.bind h fun ws st1 J G1 ad1 H1 _ s1 rs1 rJ q => ?_)
  have rl1 := rl.step s1
  intro D hD
  have gD : G1 D = none := rs1.sub.none hD
  have nD : D ∉ ad1 := fun z => by obtain ⟨o, e⟩ := rs1.there z; rw [hD] at e; cases e
  -- what stands while the list is built: the rest of the run still answers
  have hinv : ∃ Iv : (List W → Sto → R (List W)) → Hp → Prop, Iv = fun k H => ∃ G2 ad2 st2 acc us, Step G1 ad1 H1 G2 ad2 H ∧ RepS (wd X) G2 ad2 st2 H ∧ H D = some (.lst us) ∧ G2 D = none ∧ D ∉ ad2 ∧ WvAll (wd X) G2 ad2 us acc ∧
      Post X Wx G1 ad1 H1 σ (relW X) (packR (k acc st2)) Q := ⟨_, rfl⟩
  obtain ⟨Iv, eI⟩ := hinv
  refine ⟨fun i m H => m = ws.length - i ∧ i ≤ ws.length ∧ Iv (lc2R g T FI1 vs1 g1 T1 Fe (wipeL ρ (own.map (·.2))) (ws.drop i)) H, ⟨_, rfl, Nat.zero_le _, ?_⟩, ?_⟩
  · rw [eI]
    exact ⟨G1, ad1, st1, [], [], Step.refl.fresh hD, rs1.other gD nD, upd_same, gD, nD, .nil, q⟩
  rintro i m H2 ⟨rfl, hi, iv⟩
  rw [eI] at iv
  obtain ⟨G2, ad2, st2, acc, us, s2, rs2, hD2, gD2, nD2, ra, q2⟩ := iv
  have rl2 : RepL (wd X) G2 ad2 ρ σ := rl1.step s2
  obtain ⟨hgo, hstop⟩ := rJ G2 ad2 H2 s2.gle s2.adp rs2.sub
  by_cases hlt : i < ws.length
  · have hw : ws[i]? = some ws[i] := List.getElem?_eq_getElem hlt
    obtain ⟨go, yld⟩ := hgo i ws[i] hw
    refine .inr ⟨go, Iv (lc2R g T FI1 vs1 g1 T1 Fe (wipeL ρ (own.map (·.2))) (ws.drop (i + 1))), fun H' hN => ⟨ws.length - (i + 1), by omega, rfl, hlt, hN⟩, fun x H' hy => ?_⟩
    obtain ⟨G3, hG⟩ := yld x H' hy
    obtain ⟨s3, rs3, rx⟩ := hG st2 rs2
    obtain ⟨hD3, gD3, nD3⟩ := s3.mine hD2 gD2 nD2
    rw [List.drop_eq_getElem_cons hlt] at q2
    unfold lc2R at q2
    have rlw : RepL (wd X) G3 ad2 (wipeL ρ (own.map (·.2))) (wipe σ (own.map (·.2))) := wipeL_rel (rl2.step s3) _
    cases eg : g ws[i] (wipeL ρ (own.map (·.2))) st2 with
    | none => rw [eg] at q2; exact q2.elim
    | some ρ1 =>
      rw [eg] at q2
      refine kg x ws[i] _ H' G3 ad2 _ st2 ρ1 _ rs3 rlw rx eg fun σ2 hb rl4 => ⟨(wipe_but hb hsl).trans wipe_wipe, ?_⟩
      refine kt σ2 H' G3 ad2 ρ1 st2 _ rs3 rl4 ?_
      cases et : T ρ1 st2 with
      | exc c st3 => simp only [et] at q2; exact q2.elim
      | bad => simp only [et] at q2; exact q2.elim
      | ok b st3 =>
        intro b' G4 ad4 H4 s4 rs4 eb
        obtain rfl : b' = b := eb
        obtain ⟨hD4, gD4, nD4⟩ := s4.mine hD3 gD3 nD3
        have s24 := s2.trans (s3.trans s4)
        cases b' with
        | false =>
          simp only [et] at q2
          rw [if_neg Bool.false_ne_true, eI]
          exact ⟨G4, ad4, st3, acc, us, s24, rs4, hD4, gD4, nD4, WvAll.step (s3.trans s4) ra, q2⟩
        | true =>
          simp only [et] at q2
          rw [if_pos rfl]
          refine ki1 σ2 H4 G4 ad4 ρ1 st3 _ rs4 (rl4.step s4) ?_
          cases e1 : FI1 ρ1 st3 with
          | exc c st5 => simp only [e1] at q2; exact q2.elim
          | bad => simp only [e1] at q2; exact q2.elim
          | ok ws1 st5 =>
            intro J1 G5 ad5 H5 s5 rs5 rJ1
            simp only [e1] at q2
            split at q2
            · rename_i hz
              obtain ⟨hD5, gD5, nD5⟩ := s5.mine hD4 gD4 nD4
              have s25 := s24.trans s5
              have ra5 := WvAll.step (s3.trans (s4.trans s5)) ra
              have rl5 : RepL (wd X) G5 ad5 ρ1 σ2 := rl4.step (s4.trans s5)
              -- the inner loop
              have hin : ∃ Iw : Nat → Hp → Prop, Iw = fun j H => ∃ G6 ad6 st6 acc6 us6, (Le G5 G6 ∧ ad5 <+: ad6) ∧ Step G1 ad1 H1 G6 ad6 H ∧ RepS (wd X) G6 ad6 st6 H ∧ H D = some (.lst us6) ∧ G6 D = none ∧ D ∉ ad6 ∧ WvAll (wd X) G6 ad6 us6 acc6 ∧ acc6.length ≤ acc.length + j ∧
                  Post X Wx G1 ad1 H1 σ (relW X) (packR (match lcR g1 T1 Fe (wipeL ρ1 vs1) (ws1.drop j) acc6 st6 with | .ok acc st3 => lc2R g T FI1 vs1 g1 T1 Fe (wipeL ρ (own.map (·.2))) (ws.drop (i + 1)) acc st3 | _ => .bad)) Q := ⟨_, rfl⟩
              obtain ⟨Iw, eW⟩ := hin
              refine ⟨fun j m H => m = ws1.length - j ∧ j ≤ ws1.length ∧ Iw j H, ⟨_, rfl, Nat.zero_le _, ?_⟩, ?_⟩
              · rw [eW]
                exact ⟨G5, ad5, st5, acc, us, ⟨.refl, List.prefix_refl _⟩, s25, rs5, hD5, gD5, nD5, ra5, Nat.le_refl _, q2⟩
              rintro j m6 H6 ⟨rfl, hj, iw⟩
              rw [eW] at iw
              obtain ⟨G6, ad6, st6, acc6, us6, s56, s16, rs6, hD6, gD6, nD6, ra6, hl6, q6⟩ := iw
              obtain ⟨hgo1, hstop1⟩ := rJ1 G6 ad6 H6 s56.1 s56.2 rs6.sub
              by_cases hlj : j < ws1.length
              · have hw1 : ws1[j]? = some ws1[j] := List.getElem?_eq_getElem hlj
                obtain ⟨go1, yld1⟩ := hgo1 j ws1[j] hw1
                refine .inr ⟨go1, Iw (j + 1), fun H' hN => ⟨ws1.length - (j + 1), by omega, rfl, hlj, hN⟩, fun x7 H7 hy7 => ?_⟩
                obtain ⟨G7, hG7⟩ := yld1 x7 H7 hy7
                obtain ⟨s7, rs7, rx7⟩ := hG7 st6 rs6
                obtain ⟨hD7, gD7, nD7⟩ := s7.mine hD6 gD6 nD6
                rw [List.drop_eq_getElem_cons hlj] at q6
                unfold lcR at q6
                have rlw7 : RepL (wd X) G7 ad6 (wipeL ρ1 vs1) (wipe σ2 vs1) := wipeL_rel ((rl5.le s56.1 s56.2).step s7) _
                cases eg1 : g1 ws1[j] (wipeL ρ1 vs1) st6 with
                | none => rw [eg1] at q6; exact q6.elim
                | some ρ2 =>
                  rw [eg1] at q6
                  refine kg1 x7 ws1[j] _ H7 G7 ad6 _ st6 ρ2 _ rs7 rlw7 rx7 eg1 fun σ3 hb3 rl8 => ⟨(wipe_but hb3 hsl1).trans wipe_wipe, ?_⟩
                  refine kt1 σ3 H7 G7 ad6 ρ2 st6 _ rs7 rl8 ?_
                  cases et1 : T1 ρ2 st6 with
                  | exc c st8 => simp only [et1] at q6; exact q6.elim
                  | bad => simp only [et1] at q6; exact q6.elim
                  | ok b st8 =>
                    intro b' G8 ad8 H8 s8 rs8 eb
                    obtain rfl : b' = b := eb
                    obtain ⟨hD8, gD8, nD8⟩ := s8.mine hD7 gD7 nD7
                    have s78 := s7.trans s8
                    cases b' with
                    | false =>
                      simp only [et1] at q6
                      rw [if_neg Bool.false_ne_true, eW]
                      exact ⟨G8, ad8, st8, acc6, us6, ⟨s56.1.trans s78.gle, s56.2.trans s78.adp⟩, s16.trans s78, rs8, hD8, gD8, nD8, WvAll.step s78 ra6, Nat.le_succ_of_le hl6, q6⟩
                    | true =>
                      simp only [et1] at q6
                      rw [if_pos rfl]
                      refine ke σ3 H8 G8 ad8 ρ2 st8 _ rs8 (rl8.step s8) ?_
                      cases ey : Fe ρ2 st8 with
                      | exc c st9 => simp only [ey] at q6; exact q6.elim
                      | bad => simp only [ey] at q6; exact q6.elim
                      | ok y st9 =>
                        intro v G9 ad9 H9 s9 rs9 rv
                        simp only [ey] at q6
                        obtain ⟨hD9, gD9, nD9⟩ := s9.mine hD8 gD8 nD8
                        have s79 := s78.trans s9
                        have ra9 := WvAll.step s79 ra6
                        refine ⟨us6, hD9, by rw [ra9.length]; omega, ?_⟩
                        rw [eW]
                        exact ⟨G9, ad9, st9, acc6 ++ [y], us6 ++ [v], ⟨s56.1.trans s79.gle, s56.2.trans s79.adp⟩, (s16.trans s79).fresh hD, rs9.other gD9 nD9, upd_same, gD9, nD9, ra9.append (.cons rv .nil), by simp; omega, q6⟩
              · have e : j = ws1.length := by omega
                subst e
                refine .inl ⟨hstop1, ?_⟩
                rw [List.drop_length] at q6
                unfold lcR at q6
                rw [eI]
                exact ⟨G6, ad6, st6, acc6, us6, s16, rs6, hD6, gD6, nD6, ra6, q6⟩
            · exact q2.elim
  · have e : i = ws.length := by omega
    subst e
    refine .inl ⟨hstop, ?_⟩
    rw [List.drop_length] at q2
    unfold lc2R at q2
    have s5 : Step G1 ad1 H1 (upd G2 D (.lst us)) ad2 H2 := s2.freshG hD gD2
    have rs5 := rs2.freezeAt hD2 gD2 nD2
    have le : Le G2 (upd G2 D (.lst us)) := Le.upd gD2
    have q2 : Post X Wx G1 ad1 H1 σ (relW X) (match packW acc with | some w => .ok w st2 | none => .bad) Q := q2
    unfold packW at q2
    cases ed : datas acc with
    | some xs =>
      simp only [ed] at q2
      exact q2 _ _ ad2 H2 s5 rs5 (.d (.lst (SqL.of upd_same) ((datas_rel ra ed).le le)))
    | none =>
      simp only [ed] at q2
      cases eh : handles acc with
      | none => simp only [eh] at q2; exact q2.elim
      | some ns =>
        simp only [eh] at q2
        exact q2 _ _ ad2 H2 s5 rs5 (.hs upd_same (handles_rel ra eh))
end
end Fx

namespace Fx
open PySem PySem.Spec L2
open PyProof.Rows hiding St

theorem hu_of {X : Cx} {k : Nat} (hr : Room k X.A) : Hu X := by have := hr.un; unfold Hu; omega
/-- a def, found by its name -/
def DefOk (P : Program) (w : World) (K : PySem.W.Frag) (mg : Str → Option Value) (base : Heap) (x : Str) (k : Nat) (ps : List Str) (den : Den) : Prop :=
  ∃ f fd, FnOk P w K mg base (L2N.CX P w) k f fd ps (spD ⟨P, w, K⟩ mg ps.length den) ∧ mg x = some (.ref f) ∧ PySem.W.keepIn K (.ref f) = true ∧ Binds K fd ps []
/-- a def with one default that is an int -/
def DefOkI (P : Program) (w : World) (K : PySem.W.Frag) (mg : Str → Option Value) (base : Heap) (x : Str) (k : Nat) (ps : List Str) (den : Den) (i : Int) : Prop :=
  ∃ f fd t, FnOk P w K mg base (L2N.CX P w) k f fd ps (spD ⟨P, w, K⟩ mg ps.length den) ∧ mg x = some (.ref f) ∧ PySem.W.keepIn K (.ref f) = true ∧ Binds K fd ps [.int i t]
section
variable {X : Cx} {Wx : WX} {x : Str} {p pos : Pos} {e : Expr} {es : List Expr} {FAs : AF} {k : Nat} {ps : List Str} {den : Den}
theorem fe_callK (D : DefOk X.prog X.w X.K X.mg X.base x k ps den) (tk : L2N.Takes X Wx) (hr : Room k X.A) (hg : Gl X x) (hn : (e :: es).length = ps.length) (ha : FA X Wx (e :: es) FAs) (hdb : (x == ("__debug__" : Str)) = false := by decide) (he : starEach (e :: es) X.env = (false, eval e X.env) :: starEach es X.env := by rfl) (hpl : (backTo pos (starEach es X.env)).any (·.1) = false := by rfl) :
    FE X Wx (.Call (.Name x p) (e :: es) [] pos) (cA den FAs) := by
  obtain ⟨f, fd, Fn, hm, hk, hb⟩ := D
  exact fe_call Fn tk hr hg hm hk hb hn ha hdb he hpl
theorem fe_callK0 (D : DefOk X.prog X.w X.K X.mg X.base x k [] den) (tk : L2N.Takes X Wx) (hr : Room k X.A) (hg : Gl X x) (hdb : (x == ("__debug__" : Str)) = false := by decide) : FE X Wx (.Call (.Name x p) [] [] pos) (fun _ st => den [] st) := by
  obtain ⟨f, fd, Fn, hm, hk, hb⟩ := D
  exact fe_call0 Fn tk hr hg hm hk hb hdb
theorem fe_callKI {i : Int} (D : DefOkI X.prog X.w X.K X.mg X.base x k ps den i) (tk : L2N.Takes X Wx) (hr : Room k X.A) (hg : Gl X x) (hn : (e :: es).length + 1 = ps.length) (ha : FA X Wx (e :: es) FAs) (hdb : (x == ("__debug__" : Str)) = false := by decide) (he : starEach (e :: es) X.env = (false, eval e X.env) :: starEach es X.env := by rfl) (hpl : (backTo pos (starEach es X.env)).any (·.1) = false := by rfl) :
    FE X Wx (.Call (.Name x p) (e :: es) [] pos) (cA (fun ws st => den (ws ++ [.d (.int i)]) st) FAs) := by
  obtain ⟨f, fd, t, Fn, hm, hk, hb⟩ := D
  exact fe_callD (dvs := [.int i]) (dd := [.int i]) Fn tk hr hg hm hk hb (.cons ⟨t, rfl⟩ .nil) (fun G => .cons (.int i) .nil) hn ha hdb he hpl
end
/-- an own exception class over ValueError, with nothing of its own -/
def ExcK (K : PySem.W.Frag) (mg : Str → Option Value) (x : Str) : Prop :=
  ∃ C, mg x = some (.ref C) ∧ PySem.W.excIn K C [.type "ValueError", .type "Exception", .type "BaseException", .type "object"] "ValueError.__new__" = true ∧ PySem.W.keepIn K (.ref C) = true ∧
    PySem.W.subIn K (.ref C) (.type "BaseException") = some true ∧ PySem.W.typeIn K (.ref C) = some (.type "type")
section
variable {X : Cx} {Wx : WX}
theorem fs_raiseK {x m : Str} {j : Nat} {p p2 pos pos2 : Pos} (E : ExcK X.K X.mg x) (hc : X.calm = true) (tk : L2N.Takes X Wx) (hg : Gl X x) (hdb : (x == ("__debug__" : Str)) = false := by decide) :
    FS X Wx (.Raise (some (.Call (.Name x p) [.Constant (.str m) j p2] [] pos2)) none pos) (sRaise x) := by
  obtain ⟨C, h1, h2, h3, h4, h5⟩ := E
  exact fs_raise hc tk PySem.F.excBase_ValueError h2 h1 h3 h4 h5 hg hdb
end
/-- the law: it answers True -/
def spL (C : Wd) (den : Den) : Sp := fun vs H Q _ => vs.length = 1 ∧ ∃ G ad st ws, RepS C G ad st H ∧ WvAll C G ad vs ws ∧ ∃ w st', den ws st = .ok w st' ∧ ∀ v G' ad' H', Step G ad H G' ad' H' → RepS C G' ad' st' H' → Wv C G' ad' v w → Q v H'
theorem spL_imp {C : Wd} {mg : Str → Option Value} {den : Den} {vs : List V} {H : Hp} {Q : VK} {E : XK} (h : spL C den vs H Q E) : spD C mg 1 den vs H Q E := by
  obtain ⟨hl, G, ad, st, ws, rs, rv, w, st', e, k⟩ := h
  exact ⟨hl, G, ad, st, ws, rs, rv, by rw [e]; exact k⟩
/-- the script as it comes in -/
theorem spL_start {C : Wd} {den : Den} {H : Hp} {a : Addr} {ns : List Int} (h : SqL C.K H a (ns.map V.int)) (hd : ∃ st', den [.d (.list (ns.map .int))] [] = .ok (.d (.bool true)) st') : spL C den [.ref a] H (fun v _ => v = .bl true) fun _ _ _ => False := by
  obtain ⟨st', e⟩ := hd
  refine ⟨rfl, H, [], [], [.d (.list (ns.map .int))], ⟨Le.refl, rfl, .nil, fun n m a e => by simp at e⟩, .cons (.d (.lst h (dvAll_ints ns))) .nil, _, _, e, fun v G' ad' H' _ _ rv => ?_⟩
  cases rv with | d r => cases r; rfl
/-! ### a chain as a test -/
section
variable {X : Cx} {Wx : WX} {a b c e : Expr} {Fa Fb Fc : EF} {pos : Pos}
theorem ft_chain {g g' : W → W → Sto → R W} {r r' : R2} {op op' : CmpOp} (o : Op2 X Wx g r) (o' : Op2 X Wx g' r') (h : OpR X (compareOp op) r) (h' : OpR X (compareOp op') r') (ha : FE X Wx a Fa) (hb : FE X Wx b Fb) (hc : FE X Wx c Fc)
    (hm : lastMarks [op, op'] [b, c] = false := by with_unfolding_all rfl) : FT X Wx (.Compare a [op, op'] [b, c] pos) (tB (cChain g g' Fa Fb Fc)) := by
  obtain ⟨ta, pa, ha⟩ := ha
  obtain ⟨tb, pb, hb⟩ := hb
  obtain ⟨tc, pc, hc⟩ := hc
  refine ⟨_, pt_chain h h' pa pb pc hm, fun σ H G ad ρ st Q rs rl h => ?_⟩
  have h : Post X Wx G ad H σ (relW X) (cChain g g' Fa Fb Fc ρ st) (fun v H1 => ∃ k, v = .bl k ∧ Q k H1) := Post.bind h fun w st1 v G1 ad1 H1 _ s1 rs1 rv q => by
    unfold asB at q
    split at q
    · cases rv with | d r => cases r; exact ⟨_, rfl, q _ G1 ad1 H1 .refl rs1 rfl⟩
    · exact q.elim
  refine ha σ H G ad ρ st _ rs rl (Post.bind h fun w st1 v G1 ad1 H1 _ s1 rs1 rv k => ?_)
  refine hb σ H1 G1 ad1 ρ st1 _ rs1 (rl.step s1) (Post.bind k fun z st2 u G2 ad2 H2 _ s2 rs2 ru k2 => ?_)
  refine o σ H2 G2 ad2 st2 v w u z _ rs2 (rv.step s2) ru (Post.bind k2 fun y st3 q G3 ad3 H3 _ s3 rs3 rq k3 => ?_)
  obtain ⟨k', rfl, k4⟩ := asB_post rq k3
  refine ⟨_, rfl, ?_⟩
  cases k' with
  | true =>
    refine hc σ H3 G3 ad3 ρ st3 _ rs3 (rl.step (s1.trans (s2.trans s3))) (Post.bind k4 fun y4 st4 q4 G4 ad4 H4 _ s4 rs4 rq4 k5 => ?_)
    exact o' σ H4 G4 ad4 st4 u z q4 y4 _ rs4 (ru.step (s3.trans s4)) rq4 k5
  | false => exact k4 _ G3 ad3 H3 .refl rs3 (.d (.bl false))
end
end Fx

namespace Fx
open PySem PySem.Spec L2
open PyProof.Rows hiding St
def zipD : List PyData → List PyData → List PyData
  | x :: xs, y :: ys => .tuple [x, y] :: zipD xs ys
  | _, _ => []
def gEnumZip (ws : List W) (st : Sto) : R (List W) := match frzs ws st with
  | some ([.list xs, .list ys], st) => .ok (packE 0 (zipD xs ys)) st
  | _ => .bad

/-! ### a zip whose last pair may be gone -/
abbrev ZipC (h : Heap) (z TI TO : Addr) (o0 : Value) (f : Bool) : Prop :=
  h.get? z = some { cls := .type "zip", dict := none, data := .fields #[o0, .bool f, .bool false, .ref TI, .ref TO], slots := #[] }
section
variable {prog : Program} {w : World} {A : Around} {E : Value → Shared → Prop} {s : Shared}
theorem dead_none {a : Addr} {Q : Option Obj → Shared → Prop} (ho : s.heap.get? a = none) (h : Q none s) : wpAny (model prog w) A (loadIfAlive a) Q E s :=
  have q : Q (s.heap.get? a) s := by rw [ho]; exact h
  fun _ _ _ => q
/-- the pair handed out last: none, or one that is gone -/
theorem free_zip {z TI TO : Addr} {o0 : Value} {f : Bool} {Q : Bool → Shared → Prop} (hz : ZipC s.heap z TI TO o0 f) (ho : o0 = .none ∨ ∃ T : Addr, o0 = rawInt T ∧ s.heap.get? T = none) (q : Q true s) :
    wpAny (model prog w) A (Builtin.SmallTypes.ownedTupleIsFree (.ref z)) Q E s := by
  unfold Builtin.SmallTypes.ownedTupleIsFree
  rcases ho with rfl | ⟨T, rfl, hT⟩
  · exact wpAny_bind (wpAny_field hz rfl (x := .none) rfl (wpAny_pure q))
  · refine wpAny_bind (wpAny_field hz rfl (x := rawInt T) rfl ?_)
    show wpAny _ _ (loadIfAlive ((T : Int).toNat) >>= _) _ _ _
    rw [Int.toNat_natCast]
    refine wpAny_bind (dead_none hT ?_)
    simp only [Option.isNone_none, if_true]
    exact wpAny_pure q
theorem freeZip_item {z TI TO i1 i2 l1 l2 : Addr} {o0 : Value} {f : Bool} {k1 k2 : Nat} {xs ys : Array Value} {x y a b : Value} {Q : Value → Shared → Prop} (D : ZipApart z TI TO i1 i2 l1 l2) (zc : ZipC s.heap z TI TO o0 f) (ho : o0 = .none ∨ ∃ T : Addr, o0 = rawInt T ∧ s.heap.get? T = none)
    (pI : IsPair s.heap TI (.ref i1) (.ref i2)) (pO : IsPair s.heap TO a b) (j1 : s.heap.IsListIter i1 l1 k1) (j2 : s.heap.IsListIter i2 l2 k2) (q1 : s.heap.IsList l1 xs) (q2 : s.heap.IsList l2 ys) (ex : xs[k1]? = some x) (ey : ys[k2]? = some y)
    (fin : ∀ h', ZipC h' z TI TO (rawInt s.heap.objs.size) false → IsPair h' TO x y → h'.IsListIter i1 l1 (k1 + 1) → h'.IsListIter i2 l2 (k2 + 1) → IsPair h' s.heap.objs.size x y → h'.objs.size = s.heap.objs.size + 1 →
      (∀ c o, c ≠ z → c ≠ TO → c ≠ i1 → c ≠ i2 → s.heap.get? c = some o → h'.get? c = some o) → Q (.ref s.heap.objs.size) { s with heap := h' }) :
    wpAny (model prog w) A (Builtin.«zip.__next__» ⟨[.ref z], []⟩) (fun fin s' => ∃ v, fin = .done (.ret v) ∧ Q v s') E s := by
  show wpAny _ _ (field (.ref z) 2 >>= _) _ _ _
  refine wpAny_bind (wpAny_field zc rfl (x := .bool false) rfl ?_)
  show wpAny _ _ (field (.ref z) 3 >>= _) _ _ _
  refine wpAny_bind (wpAny_field zc rfl (x := .ref TI) rfl (wpAny_bind (wpAny_seqItems pI rfl ?_)))
  show wpAny _ _ (Builtin.SmallTypes.ownedTupleIsFree (.ref z) >>= _) _ _ _
  refine wpAny_bind (free_zip zc ho ?_)
  simp only [if_true]
  refine wpAny_bind (wpAny_rule (wpAny_bind (wpAny_field zc rfl (x := .ref TO) rfl (wpAny_bind (wpAny_setField_rec zc (by simp) fun g1 c1 b1 => ?_)))))
  have c1 : ZipC g1 z TI TO .ellipsis f := c1
  refine wpAny_bind ?_
  simp only [List.zipIdx_cons, List.zipIdx_nil, List.forIn_cons, List.forIn_nil]
  refine wpAny_bind (wpAny_bind (wpAny_onRaise ?_))
  show wpAny _ _ (Builtin.SmallTypes.nextOf (.ref i1) >>= _) _ _ { s with heap := g1 }
  refine wpAny_bind (wpAny_nextOf_list_item (s := { s with heap := g1 }) (j1.extBut b1.extBut D.i1z) (q1.extBut b1.extBut D.l1z) ex fun g2 m2 b2 => wpAny_pure ?_)
  have O2 : IsPair g2 TO a b := b2.extBut _ _ D.TOi1 (b1.extBut _ _ D.TOz pO)
  refine wpAny_bind (wpAny_seqItems (s := { s with heap := g2 }) O2 rfl (wpAny_bind (wpAny_updateSeq_pair (s := { s with heap := g2 }) O2 fun g3 O3 b3 => ?_)))
  have O3 : IsPair g3 TO x b := O3
  refine wpAny_bind (wpAny_letGo (wpAny_pure (wpAny_bind (wpAny_bind (wpAny_onRaise ?_)))))
  show wpAny _ _ (Builtin.SmallTypes.nextOf (.ref i2) >>= _) _ _ { s with heap := g3 }
  refine wpAny_bind (wpAny_nextOf_list_item (s := { s with heap := g3 }) (((j2.extBut b1.extBut D.i2z).extBut b2.extBut D.i12.symm).extBut b3.extBut D.TOi2.symm) (((q2.extBut b1.extBut D.l2z).extBut b2.extBut D.l2i1).extBut b3.extBut D.l2TO) ey fun g4 m4 b4 => wpAny_pure ?_)
  have O4 : IsPair g4 TO x b := b4.extBut _ _ D.TOi2 O3
  refine wpAny_bind (wpAny_seqItems (s := { s with heap := g4 }) O4 rfl (wpAny_bind (wpAny_updateSeq_pair (s := { s with heap := g4 }) O4 fun g5 O5 b5 => ?_)))
  have O5 : IsPair g5 TO x y := O5
  refine wpAny_bind (wpAny_letGo (wpAny_pure (wpAny_pure ?_)))
  refine wpAny_bind (wpAny_seqItems (s := { s with heap := g5 }) O5 rfl (wpAny_bind (wpAny_newTuple ?_)))
  have sz : g5.objs.size = s.heap.objs.size := by rw [b5.1, b4.1, b3.1, b2.1, b1.1]
  have c5 : ZipC g5 z TI TO .ellipsis f := b5.extBut _ _ D.TOz.symm (b4.extBut _ _ D.i2z.symm (b3.extBut _ _ D.TOz.symm (b2.extBut _ _ D.i1z.symm c1)))
  have old5 : ∀ c o, c ≠ z → c ≠ TO → c ≠ i1 → c ≠ i2 → s.heap.get? c = some o → g5.get? c = some o := fun c o n1 n2 n3 n4 e => b5.extBut _ _ n2 (b4.extBut _ _ n4 (b3.extBut _ _ n2 (b2.extBut _ _ n3 (b1.extBut _ _ n1 e))))
  have m1' : g5.IsListIter i1 l1 (k1 + 1) := ((m2.extBut b3.extBut D.TOi1.symm).extBut b4.extBut D.i12).extBut b5.extBut D.TOi1.symm
  have m2' : g5.IsListIter i2 l2 (k2 + 1) := m4.extBut b5.extBut D.TOi2.symm
  have zlt : z < g5.objs.size := Heap.lt_size c5
  show wpAny _ _ (Builtin.SmallTypes.ownedTupleHandOut (.ref z) (.ref g5.objs.size) >>= _) _ _ { s with heap := g5.push { cls := .type "tuple", data := .seq #[x, y] } }
  refine wpAny_bind ?_
  unfold Builtin.SmallTypes.ownedTupleHandOut
  have c6 : ZipC (g5.push { cls := .type "tuple", data := .seq #[x, y] }) z TI TO .ellipsis f := Heap.get?_push_of_some _ c5
  refine wpAny_bind (wpAny_setField_rec (s := { s with heap := g5.push { cls := .type "tuple", data := .seq #[x, y] } }) c6 (by simp) fun g7 c7 b7 => ?_)
  have c7 : ZipC g7 z TI TO (rawInt g5.objs.size) f := c7
  refine wpAny_setField_rec (s := { s with heap := g7 }) c7 (by simp) fun g8 c8 b8 => ?_
  have c8 : ZipC g8 z TI TO (rawInt g5.objs.size) false := c8
  have up : ∀ c o, c ≠ z → g5.get? c = some o → g8.get? c = some o := fun c o n e => b8.extBut _ _ n (b7.extBut _ _ n (Heap.get?_push_of_some _ e))
  have T8 : IsPair g8 g5.objs.size x y := b8.extBut _ _ (Nat.ne_of_gt zlt) (b7.extBut _ _ (Nat.ne_of_gt zlt) (Heap.get?_push_size _ rfl))
  have z8 : g8.objs.size = g5.objs.size + 1 := by rw [b8.1, b7.1, Heap.size_push]
  rw [sz] at c8 T8 z8
  refine wpAny_pure ⟨_, rfl, ?_⟩
  show Q (.ref g5.objs.size) { s with heap := g8 }
  rw [sz]
  exact fin g8 c8 (up _ _ D.TOz O5) (m1'.at fun o e => up _ o D.i1z e) (m2'.at fun o e => up _ o D.i2z e) T8 z8 fun c o n1 n2 n3 n4 e => up c o n1 (old5 c o n1 n2 n3 n4 e)
theorem freeZip_end {z TI TO i1 i2 l1 l2 : Addr} {o0 : Value} {f : Bool} {k1 k2 : Nat} {xs ys : Array Value} {a b : Value} {Q : Fin → Shared → Prop} (hh : A.handled = none) (D : ZipApart z TI TO i1 i2 l1 l2) (zc : ZipC s.heap z TI TO o0 f) (ho : o0 = .none ∨ ∃ T : Addr, o0 = rawInt T ∧ s.heap.get? T = none)
    (pI : IsPair s.heap TI (.ref i1) (.ref i2)) (pO : IsPair s.heap TO a b) (j1 : s.heap.IsListIter i1 l1 k1) (j2 : s.heap.IsListIter i2 l2 k2) (q1 : s.heap.IsList l1 xs) (q2 : s.heap.IsList l2 ys) (hend : xs[k1]? = none ∨ ys[k2]? = none)
    (fin : ∀ h' e, (∀ c o, c ≠ z → c ≠ TO → c ≠ i1 → c ≠ i2 → s.heap.get? c = some o → h'.get? c = some o) → (∃ o, h'.get? e = some o ∧ o.cls = .type "StopIteration") → E (.ref e) { s with heap := h' }) :
    wpAny (model prog w) A (Builtin.«zip.__next__» ⟨[.ref z], []⟩) Q E s := by
  show wpAny _ _ (field (.ref z) 2 >>= _) _ _ _
  refine wpAny_bind (wpAny_field zc rfl (x := .bool false) rfl ?_)
  show wpAny _ _ (field (.ref z) 3 >>= _) _ _ _
  refine wpAny_bind (wpAny_field zc rfl (x := .ref TI) rfl (wpAny_bind (wpAny_seqItems pI rfl ?_)))
  show wpAny _ _ (Builtin.SmallTypes.ownedTupleIsFree (.ref z) >>= _) _ _ _
  refine wpAny_bind (free_zip zc ho ?_)
  simp only [if_true]
  refine wpAny_bind (wpAny_rule (wpAny_bind (wpAny_field zc rfl (x := .ref TO) rfl (wpAny_bind (wpAny_setField_rec zc (by simp) fun g1 c1 b1 => ?_)))))
  have c1 : ZipC g1 z TI TO .ellipsis f := c1
  refine wpAny_bind ?_
  simp only [List.zipIdx_cons, List.zipIdx_nil, List.forIn_cons, List.forIn_nil]
  refine wpAny_bind (wpAny_bind (wpAny_onRaise ?_))
  show wpAny _ _ (Builtin.SmallTypes.nextOf (.ref i1) >>= _) _ _ { s with heap := g1 }
  cases hx : xs[k1]? with
  | none =>
    refine wpAny_bind (wpAny_nextOf_list_end (s := { s with heap := g1 }) hh (j1.extBut b1.extBut D.i1z) (q1.extBut b1.extBut D.l1z) hx fun g2 e b2 he => ?_)
    obtain ⟨oe, hoe, hce⟩ := he
    have c2 : ZipC g2 z TI TO .ellipsis f := b2 _ _ D.i1z.symm c1
    have ne : e ≠ z := fun q => by subst q; rw [c2] at hoe; cases hoe; simp at hce
    exact wpAny_setField_rec (s := { s with heap := g2 }) c2 (by simp) fun g3 _ b3 => fin g3 e (fun c o n1 _ n3 _ q => b3.extBut _ _ n1 (b2 _ _ n3 (b1.extBut _ _ n1 q))) ⟨oe, b3.extBut _ _ ne hoe, hce⟩
  | some x =>
    have ey : ys[k2]? = none := by rcases hend with q | q; rw [hx] at q; cases q; exact q
    refine wpAny_bind (wpAny_nextOf_list_item (s := { s with heap := g1 }) (j1.extBut b1.extBut D.i1z) (q1.extBut b1.extBut D.l1z) hx fun g2 m2 b2 => wpAny_pure ?_)
    have O2 : IsPair g2 TO a b := b2.extBut _ _ D.TOi1 (b1.extBut _ _ D.TOz pO)
    refine wpAny_bind (wpAny_seqItems (s := { s with heap := g2 }) O2 rfl (wpAny_bind (wpAny_updateSeq_pair (s := { s with heap := g2 }) O2 fun g3 O3 b3 => ?_)))
    refine wpAny_bind (wpAny_letGo (wpAny_pure (wpAny_bind (wpAny_bind (wpAny_onRaise ?_)))))
    show wpAny _ _ (Builtin.SmallTypes.nextOf (.ref i2) >>= _) _ _ { s with heap := g3 }
    refine wpAny_bind (wpAny_nextOf_list_end (s := { s with heap := g3 }) hh (((j2.extBut b1.extBut D.i2z).extBut b2.extBut D.i12.symm).extBut b3.extBut D.TOi2.symm) (((q2.extBut b1.extBut D.l2z).extBut b2.extBut D.l2i1).extBut b3.extBut D.l2TO) ey fun g4 e b4 he => ?_)
    obtain ⟨oe, hoe, hce⟩ := he
    have c4 : ZipC g4 z TI TO .ellipsis f := b4 _ _ D.i2z.symm (b3.extBut _ _ D.TOz.symm (b2.extBut _ _ D.i1z.symm c1))
    have ne : e ≠ z := fun q => by subst q; rw [c4] at hoe; cases hoe; simp at hce
    exact wpAny_setField_rec (s := { s with heap := g4 }) c4 (by simp) fun g5 _ b5 => fin g5 e (fun c o n1 n2 n3 n4 q => b5.extBut _ _ n1 (b4 _ _ n4 (b3.extBut _ _ n2 (b2.extBut _ _ n3 (b1.extBut _ _ n1 q))))) ⟨oe, b5.extBut _ _ ne hoe, hce⟩
/-- a zip under way, whatever became of its last pair -/
def ZipAny (h : Heap) (z TI TO : Addr) : Prop := ∃ o0 f, ZipC h z TI TO o0 f ∧ (o0 = .none ∨ ∃ T : Addr, o0 = rawInt T)
theorem anyZip_item {z TI TO i1 i2 l1 l2 : Addr} {k1 k2 : Nat} {xs ys : Array Value} {x y a b : Value} {Q : Value → Shared → Prop} (D : ZipApart z TI TO i1 i2 l1 l2) (zc : ZipAny s.heap z TI TO)
    (pI : IsPair s.heap TI (.ref i1) (.ref i2)) (pO : IsPair s.heap TO a b) (j1 : s.heap.IsListIter i1 l1 k1) (j2 : s.heap.IsListIter i2 l2 k2) (q1 : s.heap.IsList l1 xs) (q2 : s.heap.IsList l2 ys) (ex : xs[k1]? = some x) (ey : ys[k2]? = some y)
    (fin : ∀ h', ZipAny h' z TI TO → (∃ a b, IsPair h' TO a b) → h'.IsListIter i1 l1 (k1 + 1) → h'.IsListIter i2 l2 (k2 + 1) → IsPair h' s.heap.objs.size x y → h'.objs.size = s.heap.objs.size + 1 →
      (∀ c o, c ≠ z → c ≠ TO → c ≠ i1 → c ≠ i2 → s.heap.get? c = some o → h'.get? c = some o) → Q (.ref s.heap.objs.size) { s with heap := h' }) :
    wpAny (model prog w) A (Builtin.«zip.__next__» ⟨[.ref z], []⟩) (fun fin s' => ∃ v, fin = .done (.ret v) ∧ Q v s') E s := by
  obtain ⟨o0, f, zc, ho⟩ := zc
  rcases ho with rfl | ⟨T, rfl⟩
  · exact freeZip_item D zc (.inl rfl) pI pO j1 j2 q1 q2 ex ey fun h' c1 c2 c3 c4 c5 c6 c7 => fin h' ⟨_, _, c1, .inr ⟨_, rfl⟩⟩ ⟨_, _, c2⟩ c3 c4 c5 c6 c7
  · cases hT : s.heap.get? T with
    | none => exact freeZip_item D zc (.inr ⟨T, rfl, hT⟩) pI pO j1 j2 q1 q2 ex ey fun h' c1 c2 c3 c4 c5 c6 c7 => fin h' ⟨_, _, c1, .inr ⟨_, rfl⟩⟩ ⟨_, _, c2⟩ c3 c4 c5 c6 c7
    | some oT => exact zip_next_item_held D zc hT pI j1 j2 q1 q2 ex ey fun h' c1 c3 c4 c5 c6 c7 => fin h' ⟨_, _, c1, .inr ⟨_, rfl⟩⟩ ⟨a, b, c7 _ _ D.TOz D.TOi1 D.TOi2 pO⟩ c3 c4 c5 c6 fun c o n1 n2 n3 n4 e => c7 c o n1 n3 n4 e
theorem anyZip_end {z TI TO i1 i2 l1 l2 : Addr} {k1 k2 : Nat} {xs ys : Array Value} {a b : Value} {Q : Fin → Shared → Prop} (hh : A.handled = none) (D : ZipApart z TI TO i1 i2 l1 l2) (zc : ZipAny s.heap z TI TO)
    (pI : IsPair s.heap TI (.ref i1) (.ref i2)) (pO : IsPair s.heap TO a b) (j1 : s.heap.IsListIter i1 l1 k1) (j2 : s.heap.IsListIter i2 l2 k2) (q1 : s.heap.IsList l1 xs) (q2 : s.heap.IsList l2 ys) (hend : xs[k1]? = none ∨ ys[k2]? = none)
    (fin : ∀ h' e, (∀ c o, c ≠ z → c ≠ TO → c ≠ i1 → c ≠ i2 → s.heap.get? c = some o → h'.get? c = some o) → (∃ o, h'.get? e = some o ∧ o.cls = .type "StopIteration") → E (.ref e) { s with heap := h' }) :
    wpAny (model prog w) A (Builtin.«zip.__next__» ⟨[.ref z], []⟩) Q E s := by
  obtain ⟨o0, f, zc, ho⟩ := zc
  rcases ho with rfl | ⟨T, rfl⟩
  · exact freeZip_end hh D zc (.inl rfl) pI pO j1 j2 q1 q2 hend fin
  · cases hT : s.heap.get? T with
    | none => exact freeZip_end hh D zc (.inr ⟨T, rfl, hT⟩) pI pO j1 j2 q1 q2 hend fin
    | some oT => exact zip_next_end_held hh D zc hT pI j1 j2 q1 q2 hend fun h' e k he => fin h' e (fun c o n1 _ n3 n4 q => k c o n1 n3 n4 q) he
theorem zip_isTy {z TI TO : Addr} (zc : ZipAny s.heap z TI TO) : s.TypeIs (.ref z) "zip" := by
  obtain ⟨o0, f, c, _⟩ := zc
  exact ⟨_, c, rfl⟩
/-- a turn of enumerate over such a zip -/
theorem enumZip_body {e z TI TO i1 i2 l1 l2 : Addr} {k : Nat} {c : Int} {old : Value} {xs ys : Array Value} {x y a b : Value} {Q : Value → Shared → Prop} (D : ZipApart z TI TO i1 i2 l1 l2) (he : IsEnum s.heap e z c old) (ne : e ≠ z) (nO : e ≠ TO) (n1 : e ≠ i1) (n2 : e ≠ i2) (zc : ZipAny s.heap z TI TO)
    (pI : IsPair s.heap TI (.ref i1) (.ref i2)) (nI : e ≠ TI) (pO : IsPair s.heap TO a b) (j1 : s.heap.IsListIter i1 l1 k) (j2 : s.heap.IsListIter i2 l2 k) (q1 : s.heap.IsList l1 xs) (q2 : s.heap.IsList l2 ys) (ex : xs[k]? = some x) (ey : ys[k]? = some y)
    (fin : ∀ h' T tk, ZipAny h' z TI TO → (∃ a b, IsPair h' TO a b) → IsPair h' TI (.ref i1) (.ref i2) → h'.IsListIter i1 l1 (k + 1) → h'.IsListIter i2 l2 (k + 1) → IsPair h' s.heap.objs.size x y → T = s.heap.objs.size + 1 → IsEnumOut h' e z (c + 1) (.ref s.heap.objs.size) T →
      h'.get? T = some { cls := .type "tuple", data := .seq #[.int c tk, .ref s.heap.objs.size] } → (∀ b o, b ≠ e → b ≠ z → b ≠ TO → b ≠ i1 → b ≠ i2 → s.heap.get? b = some o → h'.get? b = some o) → Q (.ref T) { s with heap := h', toks := tk + 1 }) :
    wpAny (model prog w) A (Builtin.«enumerate.__next__» ⟨[.ref e], []⟩) (fun fin s' => ∃ v, fin = .done (.ret v) ∧ Q v s') E s := by
  obtain ⟨hp, gn, dr, tk, os⟩ := s
  have tz : (⟨hp, gn, dr, tk, os⟩ : Shared).TypeIs (.ref z) "zip" := zip_isTy zc
  have elt : e < hp.objs.size := Heap.lt_size he
  show wpAny _ _ (field (.ref e) 2 >>= _) _ _ _
  refine wpAny_bind (wpAny_field he rfl (x := .ref z) rfl (wpAny_bind ?_))
  unfold Builtin.SmallTypes.nextOf
  refine wpAny_bind (wpAny_callSpecial?_slot (name := Str.ofString "__next__") tz F.slot_zip_next (wpAny_call_entry F.slot_zip_next tz F.entry_zip_next
    (anyZip_item D zc pI pO j1 j2 q1 q2 ex ey fun g1 c1 c2 c3 c4 c5 c6 c7 => wpAny_pure ?_) (F.args_zip_next_1 _)))
  have he1 : IsEnum g1 e z c old := c7 _ _ ne nO n1 n2 he
  have pI1 : IsPair g1 TI (.ref i1) (.ref i2) := c7 _ _ D.TIz D.TITO D.TIi1 D.TIi2 pI
  show wpAny _ _ (field (.ref e) 3 >>= _) _ _ ⟨g1, gn, dr, tk, os⟩
  refine wpAny_bind (wpAny_field he1 rfl (x := rawInt c) rfl ?_)
  show wpAny _ _ (field (.ref e) 4 >>= _) _ _ ⟨g1, gn, dr, tk, os⟩
  refine wpAny_bind (wpAny_field he1 rfl (x := .none) rfl ?_)
  show wpAny _ _ (mkInt c >>= _) _ _ ⟨g1, gn, dr, tk, os⟩
  refine wpAny_bind (wpAny_mkInt ?_)
  show wpAny _ _ (setField (.ref e) 3 (rawInt (c + 1)) >>= _) _ _ ⟨g1, gn, dr, tk + 1, os⟩
  refine wpAny_bind (wpAny_setField_rec (s := ⟨g1, gn, dr, tk + 1, os⟩) he1 (by simp) fun g2 he2 b2 => ?_)
  have he2 : IsEnum g2 e z (c + 1) old := he2
  show wpAny _ _ (setField (.ref e) 4 .none >>= _) _ _ ⟨g2, gn, dr, tk + 1, os⟩
  refine wpAny_bind (wpAny_setField_rec (s := ⟨g2, gn, dr, tk + 1, os⟩) he2 (by simp) fun g3 he3 b3 => ?_)
  have he3 : IsEnum g3 e z (c + 1) old := he3
  show wpAny _ _ (newTuple [.int c tk, .ref hp.objs.size] >>= _) _ _ ⟨g3, gn, dr, tk + 1, os⟩
  refine wpAny_bind (wpAny_newTuple ?_)
  have sz3 : g3.objs.size = hp.objs.size + 1 := by rw [b3.1, b2.1]; exact c6
  have he4 : IsEnum (g3.push { cls := .type "tuple", data := .seq #[.int c tk, .ref hp.objs.size] }) e z (c + 1) old := Heap.get?_push_of_some _ he3
  have up4 : ∀ b o, b ≠ e → g1.get? b = some o → (g3.push { cls := .type "tuple", data := .seq #[.int c tk, .ref hp.objs.size] }).get? b = some o := fun b o nb q => Heap.get?_push_of_some _ (b3.extBut _ _ nb (b2.extBut _ _ nb q))
  have T4 : (g3.push { cls := .type "tuple", data := .seq #[.int c tk, .ref hp.objs.size] }).get? g3.objs.size = some { cls := .type "tuple", data := .seq #[.int c tk, .ref hp.objs.size] } := Heap.get?_push_size _ rfl
  generalize hg4 : g3.push { cls := .type "tuple", data := .seq #[.int c tk, .ref hp.objs.size] } = g4 at he4 up4 T4
  show wpAny _ _ (Builtin.SmallTypes.ownedTupleIsFree (.ref e) >>= _) _ _ ⟨g4, gn, dr, tk + 1, os⟩
  rw [sz3] at T4 ⊢
  refine wpAny_bind ?_
  unfold Builtin.SmallTypes.ownedTupleIsFree
  refine wpAny_bind (wpAny_field he4 rfl (x := .none) rfl (wpAny_pure ?_))
  simp only [if_true]
  refine wpAny_bind (wpAny_rule (wpAny_bind (wpAny_field he4 rfl (x := old) rfl (wpAny_bind (wpAny_setField_rec (s := ⟨g4, gn, dr, tk + 1, os⟩) he4 (by simp) fun g5 he5 b5 => ?_)))))
  have he5 : IsEnum g5 e z (c + 1) (.ref hp.objs.size) := he5
  show wpAny _ _ (Builtin.SmallTypes.ownedTupleHandOut (.ref e) (.ref (hp.objs.size + 1)) >>= _) _ _ ⟨g5, gn, dr, tk + 1, os⟩
  refine wpAny_bind ?_
  unfold Builtin.SmallTypes.ownedTupleHandOut
  refine wpAny_bind (wpAny_setField_rec (s := ⟨g5, gn, dr, tk + 1, os⟩) he5 (by simp) fun g6 he6 b6 => ?_)
  have he6 : IsEnumOut g6 e z (c + 1) (.ref hp.objs.size) (hp.objs.size + 1) := he6
  refine wpAny_setField_rec (s := ⟨g6, gn, dr, tk + 1, os⟩) he6 (by simp) fun g7 he7 b7 => ?_
  have he7 : IsEnumOut g7 e z (c + 1) (.ref hp.objs.size) (hp.objs.size + 1) := he7
  have up7 : ∀ b o, b ≠ e → g1.get? b = some o → g7.get? b = some o := fun b o nb q => b7.extBut _ _ nb (b6.extBut _ _ nb (b5.extBut _ _ nb (up4 b o nb q)))
  refine wpAny_bind (wpAny_letGo (wpAny_pure ⟨_, rfl, fin g7 (hp.objs.size + 1) tk ?_ ?_ (up7 _ _ nI.symm pI1) (c3.at fun o q => up7 _ o n1.symm q) (c4.at fun o q => up7 _ o n2.symm q) (up7 _ _ (Nat.ne_of_gt elt) c5) rfl he7 ?_ fun b o nb m1 m2 m3 m4 q => up7 b o nb (c7 b o m1 m2 m3 m4 q)⟩))
  · obtain ⟨o0, f, q, ho⟩ := c1
    exact ⟨o0, f, up7 _ _ ne.symm q, ho⟩
  · obtain ⟨a', b', q⟩ := c2
    exact ⟨a', b', up7 _ _ nO.symm q⟩
  · have nT : hp.objs.size + 1 ≠ e := Nat.ne_of_gt (Nat.lt_succ_of_lt elt)
    exact b7.extBut _ _ nT (b6.extBut _ _ nT (b5.extBut _ _ nT T4))
theorem enumZip_end {e z TI TO i1 i2 l1 l2 : Addr} {k : Nat} {c : Int} {old : Value} {xs ys : Array Value} {a b : Value} {Q : Option Value → Shared → Prop} (hh : A.handled = none) (D : ZipApart z TI TO i1 i2 l1 l2) (he : IsEnum s.heap e z c old) (zc : ZipAny s.heap z TI TO)
    (pI : IsPair s.heap TI (.ref i1) (.ref i2)) (pO : IsPair s.heap TO a b) (j1 : s.heap.IsListIter i1 l1 k) (j2 : s.heap.IsListIter i2 l2 k) (q1 : s.heap.IsList l1 xs) (q2 : s.heap.IsList l2 ys) (hend : xs[k]? = none ∨ ys[k]? = none)
    (fin : ∀ h', (∀ c o, c ≠ z → c ≠ TO → c ≠ i1 → c ≠ i2 → s.heap.get? c = some o → h'.get? c = some o) → Q none { s with heap := h' }) :
    wpAny (model prog w) A (pyNext (.ref e)) Q E s := by
  have ty : s.TypeIs (.ref e) "enumerate" := ⟨_, he, rfl⟩
  have tz : s.TypeIs (.ref z) "zip" := zip_isTy zc
  unfold pyNext
  refine wpAny_bind (wpAny_attempt (wpAny_callSpecial?_slot (name := Str.ofString "__next__") ty F.slot_enumerate_next (wpAny_call_entry F.slot_enumerate_next ty F.entry_enumerate_next ?_ (F.args_enumerate_next_1 _))))
  show wpAny _ _ (field (.ref e) 2 >>= _) _ _ _
  refine wpAny_bind (wpAny_field he rfl (x := .ref z) rfl (wpAny_bind ?_))
  unfold Builtin.SmallTypes.nextOf
  refine wpAny_bind (wpAny_callSpecial?_slot (name := Str.ofString "__next__") tz F.slot_zip_next (wpAny_call_entry F.slot_zip_next tz F.entry_zip_next
    (anyZip_end hh D zc pI pO j1 j2 q1 q2 hend fun h' x hk hx => ?_) (F.args_zip_next_1 _)))
  obtain ⟨o, ho, hc⟩ := hx
  refine wpAny_bind (wpAny_isInstance (T := "StopIteration") (b := true) ⟨o, ho, hc⟩ isSubtype_stop ?_)
  exact wpAny_pure (fin h' hk)
theorem enumZip_item {e z TI TO i1 i2 l1 l2 : Addr} {k : Nat} {c : Int} {old : Value} {xs ys : Array Value} {x y a b : Value} {Q : Option Value → Shared → Prop} (D : ZipApart z TI TO i1 i2 l1 l2) (he : IsEnum s.heap e z c old) (ne : e ≠ z) (nO : e ≠ TO) (n1 : e ≠ i1) (n2 : e ≠ i2) (zc : ZipAny s.heap z TI TO)
    (pI : IsPair s.heap TI (.ref i1) (.ref i2)) (nI : e ≠ TI) (pO : IsPair s.heap TO a b) (j1 : s.heap.IsListIter i1 l1 k) (j2 : s.heap.IsListIter i2 l2 k) (q1 : s.heap.IsList l1 xs) (q2 : s.heap.IsList l2 ys) (ex : xs[k]? = some x) (ey : ys[k]? = some y)
    (fin : ∀ h' T tk, ZipAny h' z TI TO → (∃ a b, IsPair h' TO a b) → IsPair h' TI (.ref i1) (.ref i2) → h'.IsListIter i1 l1 (k + 1) → h'.IsListIter i2 l2 (k + 1) → IsPair h' s.heap.objs.size x y → T = s.heap.objs.size + 1 → IsEnumOut h' e z (c + 1) (.ref s.heap.objs.size) T →
      h'.get? T = some { cls := .type "tuple", data := .seq #[.int c tk, .ref s.heap.objs.size] } → (∀ b o, b ≠ e → b ≠ z → b ≠ TO → b ≠ i1 → b ≠ i2 → s.heap.get? b = some o → h'.get? b = some o) → Q (some (.ref T)) { s with heap := h', toks := tk + 1 }) :
    wpAny (model prog w) A (pyNext (.ref e)) Q E s := by
  have ty : s.TypeIs (.ref e) "enumerate" := ⟨_, he, rfl⟩
  unfold pyNext
  exact wpAny_bind (wpAny_attempt (wpAny_callSpecial?_slot (name := Str.ofString "__next__") ty F.slot_enumerate_next (wpAny_call_entry F.slot_enumerate_next ty F.entry_enumerate_next
    (enumZip_body D he ne nO n1 n2 zc pI nI pO j1 j2 q1 q2 ex ey fun h' T tk d1 d2 d3 d4 d5 d6 d7 d8 d9 d10 => wpAny_pure (fin h' T tk d1 d2 d3 d4 d5 d6 d7 d8 d9 d10)) (F.args_enumerate_next_1 _))))
end
/-! ### enumerate of an iterator that is its own -/
theorem enum_newS {z : Addr} {Hs : Heap → Prop} (it : ∀ (prog : Program) (w : World) (A : Around) (E : Value → Shared → Prop) (s : Shared) (Q : Value → Shared → Prop), Hs s.heap → Q (.ref z) s → wpAny (model prog w) A (pyIter (.ref z)) Q E s) :
    Meets (Builtin.«enumerate.__new__» ⟨[.type "enumerate", .ref z], []⟩) (fun _ R s => Hs s.heap ∧ ∀ x y, y = s.heap.objs.size → x = s.heap.push { cls := .type "enumerate", data := .fields #[.none, .bool false, .ref z, rawInt 0, .none, .none] } → R (.ok (.ret (.ref y))) { s with heap := x }) :=
  .of_wp fun prog w A R s h => by
    obtain ⟨hp, gs, dr, tk, os⟩ := s
    obtain ⟨hs, h⟩ := h
    have start : ∀ {A' : Around} {E : Value → Shared → Prop} {Q : Value → Shared → Prop}, Q (.ref z) ⟨hp, gs, dr, tk, os⟩ → wpAny (model prog w) A' (pyIter (.ref z)) Q E ⟨hp, gs, dr, tk, os⟩ := fun q => it prog w _ _ ⟨hp, gs, dr, tk, os⟩ _ hs q
    have sub := sub_enumerate
    wp_walk using start
    refine wpAny_stack_any fun _ => wpAny_pure ?_
    split
    · rename_i c _ _ _ _ _
      cases (c == Value.type "enumerate") <;> (wp_walk using start; exact ⟨_, rfl, h _ _ rfl rfl⟩)
    · wp_walk using start
      exact ⟨_, rfl, h _ _ rfl rfl⟩
theorem enum_callS {prog : Program} {w : World} {A : Around} {E : Value → Shared → Prop} {s : Shared} {z : Addr} {Hs : Heap → Prop} {Q : Value → Shared → Prop} (it : ∀ (prog : Program) (w : World) (A : Around) (E : Value → Shared → Prop) (s : Shared) (Q : Value → Shared → Prop), Hs s.heap → Q (.ref z) s → wpAny (model prog w) A (pyIter (.ref z)) Q E s) (h1 : Hs s.heap)
    (h : ∀ h', IsEnum h' s.heap.objs.size z 0 .none → (∀ b u, s.heap.get? b = some u → h'.get? b = some u) → Q (.ref s.heap.objs.size) { s with heap := h' }) :
    wpAny (model prog w) A (call (.type "enumerate") [.ref z]) Q E s := by
  refine callType_new F.called_enumerate (by decide) (F.typeCall_enumerate_1 _) (F.newCall_enumerate_1 _) (fun obj => F.args_object_init_2 obj _) F.entry_enumerate_new (enum_newS it) ⟨h1, fun x y ey ex => ?_⟩
  subst ey
  have he : IsEnum x s.heap.objs.size z 0 .none := by rw [ex]; exact Heap.get?_push_size _ rfl
  exact ⟨⟨_, he, rfl⟩, h x he fun b u q => by rw [ex]; exact Heap.get?_push_of_some _ q⟩
/-- the turns: a new pair of the place and a new pair of the two lists' items -/
def ItEZ (K : PySem.W.Frag) (a b : Addr) (xs ys : List V) : It :=
  ⟨fun i H => i < min xs.length ys.length ∧ SqL K H a xs ∧ SqL K H b ys,
   fun i H v H' => ∃ (T1 T2 : Addr) (x y : V), v = .ref T2 ∧ H T1 = none ∧ T2 ≠ T1 ∧ H T2 = none ∧ xs[i]? = some x ∧ ys[i]? = some y ∧ H' = upd (upd H T1 (.tup [x, y])) T2 (.tup [.int i, .ref T1]),
   fun i H => i = min xs.length ys.length ∧ SqL K H a xs ∧ SqL K H b ys⟩
theorem turn_enumZip {P : Program} {w : World} {K : PySem.W.Frag} {elts : List Expr} {kk : Nat} {tpos : Pos} {a b e z TI TO i1 i2 : Addr} {xs ys : List V} (D : ZipApart z TI TO i1 i2 a b) (ne : e ≠ z) (nO : e ≠ TO) (n1 : e ≠ i1) (n2 : e ≠ i2) (nI : e ≠ TI) :
    Turn P w K (.Tuple elts kk tpos) (ItEZ K a b xs ys) [e, z, TI, TO, i1, i2] e (fun i h => (∃ old, IsEnum h e z (i : Int) old) ∧ ZipAny h z TI TO ∧ IsPair h TI (.ref i1) (.ref i2) ∧ (∃ x y, IsPair h TO x y) ∧ h.IsListIter i1 a i ∧ h.IsListIter i2 b i) where
  mem := by simp
  obj := fun i h st c hc => by
    obtain ⟨⟨old, he⟩, ⟨o0, f, hz, _⟩, hTI, ⟨x, y, hTO⟩, ⟨p1, e1, _, d1⟩, ⟨p2, e2, _, d2⟩⟩ := st
    have e' : c = e ∨ c = z ∨ c = TI ∨ c = TO ∨ c = i1 ∨ c = i2 := by simpa using hc
    rcases e' with q | q | q | q | q | q
    · rw [q]; exact ⟨_, he, fun v q => nomatch q⟩
    · rw [q]; exact ⟨_, hz, fun v q => nomatch q⟩
    · rw [q]; exact ⟨_, hTI, fun v q => nomatch q⟩
    · rw [q]; exact ⟨_, hTO, fun v q => nomatch q⟩
    · rw [q]; exact ⟨p1, e1, fun v q => by rw [d1] at q; cases q⟩
    · rw [q]; exact ⟨p2, e2, fun v q => by rw [d2] at q; cases q⟩
  keep := fun i h h' st k => by
    obtain ⟨⟨old, he⟩, ⟨o0, f, hz, ho⟩, hTI, ⟨x, y, hTO⟩, h1, h2⟩ := st
    exact ⟨⟨old, k e (by simp) _ he⟩, ⟨o0, f, k z (by simp) _ hz, ho⟩, k TI (by simp) _ hTI, ⟨x, y, k TO (by simp) _ hTO⟩, h1.at fun o q => k i1 (by simp) o q, h2.at fun o q => k i2 (by simp) o q⟩
  item := by
    intro X hP hw hK hc i pins s σ H E I hf st hg
    subst hP hw hK
    obtain ⟨⟨old, he⟩, hz, hTI, ⟨x0, y0, hTO⟩, h1, h2⟩ := st
    obtain ⟨hi, hqx, hqy⟩ := hg
    obtain ⟨its, rv, p, _⟩ := I.list hqx
    obtain ⟨its2, rv2, p2, _⟩ := I.list hqy
    have hx : xs[i]? = some (xs[i]'(by omega)) := List.getElem?_eq_getElem (by omega)
    have hy : ys[i]? = some (ys[i]'(by omega)) := List.getElem?_eq_getElem (by omega)
    generalize xs[i]'(by omega) = x at hx
    generalize ys[i]'(by omega) = y at hy
    obtain ⟨u, hu, ru⟩ := rv.get hx
    obtain ⟨u2, hu2, ru2⟩ := rv2.get hy
    have elt : e < s.heap.objs.size := Heap.lt_size he
    refine enumZip_item D he ne nO n1 n2 hz hTI nI hTO h1 h2 p.isList p2.isList (x := u) (y := u2) (by simpa using hu) (by simpa using hu2) fun h' T tk d1 d2 d3 d4 d5 d6 d7 d8 d9 d10 => ?_
    subst d7
    refine ⟨_, rfl, wpAny_letOwnedTupleGo_enum (s := { s with heap := h', toks := tk + 1 }) d8 fun h2' he' sb => ?_⟩
    have off : ∀ c o, c ≠ e → h'.get? c = some o → h2'.get? c = some o := fun c o nc q => (sb.2 c nc).trans q
    have T1 : h2'.get? s.heap.objs.size = some { cls := .type "tuple", data := .seq #[u, u2] } := off _ _ (Nat.ne_of_gt elt) d6
    have T2 : h2'.get? (s.heap.objs.size + 1) = some { cls := .type "tuple", data := .seq #[.int (i : Int) tk, .ref s.heap.objs.size] } := off _ _ (Nat.ne_of_gt (Nat.lt_succ_of_lt elt)) d9
    obtain ⟨G', g1, g2⟩ := restrict h2' fun c => decide (c ≠ s.heap.objs.size + 1)
    have gk : ∀ c, c ≠ s.heap.objs.size + 1 → G'.get? c = h2'.get? c := fun c hc => g1 c (decide_eq_true hc)
    have ge : G'.get? (s.heap.objs.size + 1) = none := g2 _ (by simp)
    have nT : s.heap.objs.size ≠ s.heap.objs.size + 1 := Nat.ne_of_lt (Nat.lt_succ_self _)
    have N1 : ObjOk X.prog X.w (upd H s.heap.objs.size (.tup [x, y])) G' s.heap.objs.size (.tup [x, y]) := ⟨by show 2 ≤ sizeLine; decide, [u, u2], .cons ru (.cons ru2 .nil), ⟨_, (gk _ nT).trans T1, rfl, _, rfl⟩⟩
    have I1 : L2.Inv X pins σ (upd H s.heap.objs.size (.tup [x, y])) { s with heap := G', toks := tk + 1 } :=
      I.turnedNew (t' := tk + 1) (ch := [e, z, TI, TO, i1, i2]) (fun c o hb q => by
        have lt := Heap.lt_size q
        rw [gk c (Nat.ne_of_lt (Nat.lt_succ_of_lt lt))]
        exact off c o (fun q' => hb (by simp [q'])) (d10 c o (fun q' => hb (by simp [q'])) (fun q' => hb (by simp [q'])) (fun q' => hb (by simp [q'])) (fun q' => hb (by simp [q'])) (fun q' => hb (by simp [q'])) q)) hf (Nat.le_refl _) N1
    have hn2 : (upd H s.heap.objs.size (.tup [x, y])) (s.heap.objs.size + 1) = none := by rw [upd_ne nT.symm]; exact I.hok.fresh (Nat.le_succ _)
    have ks : ∀ c o, G'.get? c = some o → h2'.get? c = some o := fun c o q => by
      by_cases hc : c = s.heap.objs.size + 1
      · rw [hc, ge] at q; cases q
      · rw [← gk c hc]; exact q
    have N2 : ObjOk X.prog X.w (upd (upd H s.heap.objs.size (.tup [x, y])) (s.heap.objs.size + 1) (.tup [.int i, .ref s.heap.objs.size])) h2' (s.heap.objs.size + 1) (.tup [.int i, .ref s.heap.objs.size]) :=
      ⟨by show 2 ≤ sizeLine; decide, [.int (i : Int) tk, .ref s.heap.objs.size], .cons ⟨tk, rfl⟩ (.cons rfl .nil), ⟨_, T2, rfl, _, rfl⟩⟩
    have I2 : L2.Inv X pins σ (upd (upd H s.heap.objs.size (.tup [x, y])) (s.heap.objs.size + 1) (.tup [.int i, .ref s.heap.objs.size])) { s with heap := h2', toks := tk + 1 } :=
      I1.un (t' := tk + 1) (Un.laidN ks ge hn2) (I1.hok.laidN ks hn2 N2)
    refine ⟨.ref (s.heap.objs.size + 1), _, I2, rfl, ⟨_, _, x, y, rfl, I.hok.fresh (Nat.le_refl _), nT.symm, I.hok.fresh (Nat.le_succ _), hx, hy, rfl⟩, ⟨⟨_, he'⟩, ?_, off _ _ nI.symm d3, ?_, d4.at fun o q => off _ o n1.symm q, d5.at fun o q => off _ o n2.symm q⟩, fun c hcm => ?_⟩
    · obtain ⟨o0, f, q, ho⟩ := d1
      exact ⟨o0, f, off _ _ ne.symm q, ho⟩
    · obtain ⟨a', b', q⟩ := d2
      exact ⟨a', b', off _ _ nO.symm q⟩
    · have hlt : c < s.heap.objs.size := by
        obtain ⟨o0, f, hz, _⟩ := hz
        have e' : c = e ∨ c = z ∨ c = TI ∨ c = TO ∨ c = i1 ∨ c = i2 := by simpa using hcm
        rcases e' with q | q | q | q | q | q
        · rw [q]; exact elt
        · rw [q]; exact Heap.lt_size hz
        · rw [q]; exact Heap.lt_size hTI
        · rw [q]; exact Heap.lt_size hTO
        · rw [q]; obtain ⟨_, e1, _⟩ := h1; exact Heap.lt_size e1
        · rw [q]; obtain ⟨_, e2, _⟩ := h2; exact Heap.lt_size e2
      rw [upd_ne (Nat.ne_of_lt (Nat.lt_succ_of_lt hlt)), upd_ne (Nat.ne_of_lt hlt)]
      exact (hf c hcm).1
  done := by
    intro X hP hw hK hc i pins s σ H E I hf st hg
    subst hP hw hK
    obtain ⟨⟨old, he⟩, hz, hTI, ⟨x0, y0, hTO⟩, h1, h2⟩ := st
    obtain ⟨hi, hqx, hqy⟩ := hg
    obtain ⟨its, rv, p, _⟩ := I.list hqx
    obtain ⟨its2, rv2, p2, _⟩ := I.list hqy
    have l1 := rv.length
    have l2 := rv2.length
    have hend : its.toArray[i]? = none ∨ its2.toArray[i]? = none := by
      rcases Nat.le_total xs.length ys.length with q | q
      · exact .inl (by simp; omega)
      · exact .inr (by simp; omega)
    exact enumZip_end (I.ok.hd hc) D he hz hTI hTO h1 h2 p.isList p2.isList hend fun h' hk => ⟨rfl, I.turnedL (t' := s.toks) (ch := [e, z, TI, TO, i1, i2]) (fun c o hb q =>
      hk c o (fun q' => hb (by simp [q'])) (fun q' => hb (by simp [q'])) (fun q' => hb (by simp [q'])) (fun q' => hb (by simp [q'])) q) hf⟩
  self := fun A i s Q E st h => let ⟨⟨_, he⟩, _⟩ := st; wpAny_pyIter_enum he h
/-- the zip, new, behind the list of an outer call's arguments -/
def iEZ (K : PySem.W.Frag) (ta : TA) : TI := fun σ H R => ta σ H fun vs H1 => ∃ a b xs ys, vs = [.ref a, .ref b] ∧ SqL K H1 a xs ∧ SqL K H1 b ys ∧ R (ItEZ K a b xs ys) H1
theorem pi_enumZip {X : Cx} {e e2 : Expr} {ta : TA} {p p2 pos pos2 tpos : Pos} {elts : List Expr} {kk : Nat} (hg : Gl X "enumerate") (hm : X.mg "enumerate" = none) (hg2 : Gl X "zip") (hm2 : X.mg "zip" = none) (ha : PA X [e, e2] ta)
    (hs : starEach [e, e2] X.env = (false, eval e X.env) :: starEach [e2] X.env) (hpl : (backTo pos2 (starEach [e2] X.env)).any (·.1) = false)
    (hz : starEach [.Call (.Name "zip" p2) [e, e2] [] pos2] X.env = (false, eval (.Call (.Name "zip" p2) [e, e2] [] pos2) X.env) :: starEach [] X.env) (hzp : (backTo pos (starEach [] X.env)).any (·.1) = false) :
    PI X (.Tuple elts kk tpos) (.Call (.Name "enumerate" p) [.Call (.Name "zip" p2) [e, e2] [] pos2] [] pos) (iEZ X.K ta) := by
  refine ⟨fun pins s σ H R I h => ?_⟩
  refine Call_ (ld_blt I hg hm boot_enumerate (PyProof.Rows.callWith_type1 (PyProof.Rows.args_cons (Call_ (ld_blt I hg2 hm2 PyProof.Rows.boot_zip (PyProof.Rows.callWith_type1 (thn (ha.run pos2 pins s σ H _ I h) fun us s1 q0 => ?_) hs hpl))) hz) hz hzp))
  obtain ⟨vs, H1, I1, r1, q1⟩ := q0
  obtain ⟨a, b, xs, ys, ex, hqx, hqy, q⟩ := q1
  subst ex
  cases r1 with
  | cons r rr =>
    cases rr with
    | cons r' rr =>
      cases rr
      cases r
      cases r'
      obtain ⟨its, rv, p1, _⟩ := I1.list hqx
      obtain ⟨its2, rv2, p2', _⟩ := I1.list hqy
      refine call_zip_2 p1.isList p2'.isList fun h' hz hTI hTO h1 h2 hsz hk => PyProof.Rows.args_nil ?_
      have I2 : L2.Inv X pins σ H1 { s1 with heap := h' } := I1.kept (t' := s1.toks) hk
      refine enum_callS (s := { s1 with heap := h' }) (z := s1.heap.objs.size + 4) (Hs := fun h => IsZip h (s1.heap.objs.size + 4) (s1.heap.objs.size + 2) (s1.heap.objs.size + 3) .none) (fun prog w A E s Q hh q => wpAny_pyIter_zip hh q) hz fun h2' he hk2 => wpAny_pyIter_enum he ?_
      have I3 : L2.Inv X pins σ H1 { s1 with heap := h2' } := I2.kept (t' := s1.toks) hk2
      have esz : ({ s1 with heap := h' } : Shared).heap.objs.size = s1.heap.objs.size + 5 := hsz
      have he : IsEnum h2' (s1.heap.objs.size + 5) (s1.heap.objs.size + 4) 0 .none := by rw [← esz]; exact he
      rw [esz]
      refine ⟨s1.heap.objs.size + 5, [s1.heap.objs.size + 5, s1.heap.objs.size + 4, s1.heap.objs.size + 2, s1.heap.objs.size + 3, s1.heap.objs.size, s1.heap.objs.size + 1], _, _, H1, rfl, I3, turn_enumZip (xs := xs) (ys := ys) (PySem.W.ktu_apart s1.heap.objs.size a b p1.lt p2'.lt) (by simp [Addr]) (by simp [Addr]) (by simp [Addr]) (by simp [Addr]) (by simp [Addr]), ⟨⟨.none, he⟩, ⟨_, _, hk2 _ _ hz, .inl rfl⟩, hk2 _ _ hTI, ⟨_, _, hk2 _ _ hTO⟩, h1.at fun o q => hk2 _ o q, h2.at fun o q => hk2 _ o q⟩, fun c hcm => ?_, q⟩
      have e' : c = s1.heap.objs.size + 5 ∨ c = s1.heap.objs.size + 4 ∨ c = s1.heap.objs.size + 2 ∨ c = s1.heap.objs.size + 3 ∨ c = s1.heap.objs.size ∨ c = s1.heap.objs.size + 1 := by simpa using hcm
      have hle : s1.heap.objs.size ≤ c := by
        rcases e' with z | z | z | z | z | z
        · rw [z]; exact Nat.le_add_right _ _
        · rw [z]; exact Nat.le_add_right _ _
        · rw [z]; exact Nat.le_add_right _ _
        · rw [z]; exact Nat.le_add_right _ _
        · rw [z]; exact Nat.le_refl _
        · rw [z]; exact Nat.le_add_right _ _
      exact I1.fpOk hle (I1.hok.fresh hle)
theorem zipD_len : ∀ (xs ys : List PyData), (zipD xs ys).length = min xs.length ys.length
  | [], _ => by simp [zipD]
  | _ :: _, [] => by simp [zipD]
  | x :: xs, y :: ys => by simp [zipD, zipD_len xs ys]
theorem zipD_get : ∀ (xs ys : List PyData) (i : Nat) (d : PyData), (zipD xs ys)[i]? = some d → ∃ x y, xs[i]? = some x ∧ ys[i]? = some y ∧ d = .tuple [x, y]
  | [], _, i, w, e => by simp [zipD] at e
  | _ :: _, [], i, w, e => by simp [zipD] at e
  | x :: xs, y :: ys, 0, w, e => by simp [zipD] at e; exact ⟨x, y, rfl, rfl, e.symm⟩
  | x :: xs, y :: ys, i + 1, w, e => by
    obtain ⟨x', y', h1, h2, h3⟩ := zipD_get xs ys i w (by simpa [zipD] using e)
    exact ⟨x', y', by simpa using h1, by simpa using h2, h3⟩
section
variable {X : Cx} {Wx : WX} {e e2 : Expr} {FAs : AF} {p p2 pos pos2 : Pos}
theorem fi_enumZip {tpos : Pos} {elts : List Expr} {kk : Nat} (hg : Gl X "enumerate") (hm : X.mg "enumerate" = none) (hg2 : Gl X "zip") (hm2 : X.mg "zip" = none) (ha : FA X Wx [e, e2] FAs)
    (hs : starEach [e, e2] X.env = (false, eval e X.env) :: starEach [e2] X.env := by rfl) (hpl : (backTo pos2 (starEach [e2] X.env)).any (·.1) = false := by rfl)
    (hz : starEach [.Call (.Name "zip" p2) [e, e2] [] pos2] X.env = (false, eval (.Call (.Name "zip" p2) [e, e2] [] pos2) X.env) :: starEach [] X.env := by rfl) (hzp : (backTo pos (starEach [] X.env)).any (·.1) = false := by rfl) :
    FI X Wx (.Tuple elts kk tpos) (.Call (.Name "enumerate" p) [.Call (.Name "zip" p2) [e, e2] [] pos2] [] pos) (fun ρ st => (FAs ρ st).bind gEnumZip) := by
  obtain ⟨t, q, k, _⟩ := ha
  refine ⟨_, pi_enumZip hg hm hg2 hm2 q hs hpl hz hzp, fun σ H G ad ρ st Q rs rl h => ?_⟩
  refine k σ H G ad ρ st _ rs rl (Post.bind h fun ws st1 vs G1 ad1 H1 _ s1 rs1 rv q1 => ?_)
  unfold gEnumZip at q1
  split at q1
  · rename_i xs ys st' e
    obtain ⟨G2, s2, rs2, d'⟩ := frzs_ok rs1 rv e
    cases d' with | cons d1 dt => cases dt with | cons d2 dt => cases dt; cases d1 with | lst h1 r1 => cases d2 with | lst h2 r2 =>
      rename_i a us b zs
      have l1 := r1.length
      have l2 := r2.length
      have q2 := q1.mono s2
      have f1 : ∀ G3 H3, Le G2 G3 → Le G3 H3 → SqL X.K H3 a us ∧ SqL X.K H3 b zs := fun G3 H3 g s => ⟨Le.sqL s (Le.sqL g h1), Le.sqL s (Le.sqL g h2)⟩
      refine ⟨a, b, us, zs, rfl, (f1 G2 H1 Le.refl rs2.sub).1, (f1 G2 H1 Le.refl rs2.sub).2, q2 _ G2 ad1 H1 .refl rs2 ?_⟩
      intro G3 ad3 H3 g pp s
      obtain ⟨c1, c2⟩ := f1 G3 H3 g s
      have hn : (packE 0 (zipD xs ys)).length = min us.length zs.length := by rw [packE_len, zipD_len, l1, l2]
      refine ⟨fun i w ew => ⟨⟨by rw [← hn]; exact (List.getElem?_eq_some_iff.mp ew).1, c1, c2⟩, fun v H' y => ?_⟩, hn, c1, c2⟩
      obtain ⟨T1, T2, x, y, rfl, hT1, hne, hT2, ex, ey, rfl⟩ := y
      obtain ⟨d, g1, rfl⟩ := packE_get 0 _ i w ew
      obtain ⟨p, q, g2, g3, rfl⟩ := zipD_get xs ys i d g1
      obtain ⟨x', k1, dx⟩ := r1.get g2
      obtain ⟨y', k2, dy⟩ := r2.get g3
      rw [ex] at k1; cases k1
      rw [ey] at k2; cases k2
      have le1 : Le G3 (upd G3 T1 (.tup [x, y])) := Le.upd (s.none hT1)
      have hT2' : (upd H3 T1 (.tup [x, y])) T2 = none := by rw [upd_ne hne]; exact hT2
      refine ⟨upd (upd G3 T1 (.tup [x, y])) T2 (.tup [.int i, .ref T1]), fun st rs => ?_⟩
      have S1 := Step.newG rs hT1 (o := .tup [x, y])
      have R1 := rs.newG hT1 (o := .tup [x, y])
      have S2 := Step.newG R1 hT2' (o := .tup [.int i, .ref T1])
      have R2 := R1.newG hT2' (o := .tup [.int i, .ref T1])
      have le2 : Le (upd G3 T1 (.tup [x, y])) (upd (upd G3 T1 (.tup [x, y])) T2 (.tup [.int i, .ref T1])) := Le.upd (R1.sub.none hT2')
      have D1 : Dv (wd X) (upd G3 T1 (.tup [x, y])) (.ref T1) (.tuple [p, q]) := .tup (SqT.of upd_same) (.cons (dx.le (g.trans le1)) (.cons (dy.le (g.trans le1)) .nil))
      refine ⟨S1.trans S2, R2, .d (.tup (SqT.of upd_same) (.cons ?_ (.cons (D1.le le2) .nil)))⟩
      rw [Nat.zero_add]
      exact .int _
  · exact q1.elim
end
end Fx

namespace Fx
open PySem PySem.Spec L2
open PyProof.Rows hiding St

/-! ### what the top has written -/
def DefAt (K : PySem.W.Frag) (x : Str) (st : Stmt) : Prop := ∃ (f : Addr) (oc : Value) (od an : Option Addr) (osl : Array (Option Value)) (kV doc pm cdv ct : Value),
  PySem.W.nsIn K mainGlobals x = some (some (.ref f)) ∧ K.lookup f = some ⟨oc, od, .func (PySem.W.fnOf x x (defArgs st) (defBody st) (defScope st) .none kV doc pm an cdv ct), osl⟩ ∧ PySem.W.codeIn K cdv x = true ∧ PySem.W.keepIn K (.ref f) = true
/-- a def with one default, an int -/
def DefAtI (K : PySem.W.Frag) (x : Str) (st : Stmt) (i : Int) : Prop := ∃ (f T : Addr) (oc : Value) (od an : Option Addr) (osl : Array (Option Value)) (kV doc pm cdv ct : Value) (tc : Value) (td : Option Addr) (tk : Tok) (tn : Nat) (tsl : Array (Option Value)),
  PySem.W.nsIn K mainGlobals x = some (some (.ref f)) ∧ K.lookup f = some ⟨oc, od, .func (PySem.W.fnOf x x (defArgs st) (defBody st) (defScope st) (.ref T) kV doc pm an cdv ct), osl⟩ ∧ PySem.W.codeIn K cdv x = true ∧ PySem.W.keepIn K (.ref f) = true ∧ K.lookup T = some ⟨tc, td, .seq #[.int i tk] tn, tsl⟩
def ExcAt (K : PySem.W.Frag) (x : Str) : Prop := ∃ C, PySem.W.nsIn K mainGlobals x = some (some (.ref C)) ∧ PySem.W.excIn K C [.type "ValueError", .type "Exception", .type "BaseException", .type "object"] "ValueError.__new__" = true ∧ PySem.W.keepIn K (.ref C) = true ∧
  PySem.W.subIn K (.ref C) (.type "BaseException") = some true ∧ PySem.W.typeIn K (.ref C) = some (.type "type")
def IntAt (K : PySem.W.Frag) (x : Str) (i : Int) : Prop := ∃ t, PySem.W.nsIn K mainGlobals x = some (some (.int i t))
def StrsAt (K : PySem.W.Frag) (x : Str) (xs : List Str) : Prop := ∃ (a : Addr) (dd : Option Addr) (its : Array Value) (n : Nat) (sl : Array (Option Value)), PySem.W.nsIn K mainGlobals x = some (some (.ref a)) ∧ K.lookup a = some ⟨.type "tuple", dd, .seq its n, sl⟩ ∧ its.size ≤ 1000 ∧ Vals (xs.map V.str) its.toList
section
variable {P : Program} {w : World} {K : PySem.W.Frag} {mg : Str → Option Value} {base h : Heap} {x : Str} {st : Stmt} {k : Nat} {ps : List Str} {den : Den}
theorem DefAt.ok (X : K.In h) (G : h.Ns mainGlobals mg) (D : DefAt K x st) (ok : ∀ f fd, Fun K x x st f fd → FnOk P w K mg base (L2N.CX P w) k f fd ps (spD ⟨P, w, K⟩ mg ps.length den))
    (hb : ∀ (kV doc pm : Value) (an : Option Addr) (cdv ct : Value) (us : List Value), us.length = ps.length → bindArgs (PySem.W.fnOf x x (defArgs st) (defBody st) (defScope st) .none kV doc pm an cdv ct) ⟨us, []⟩ = pure (ps.zip us)) : DefOk P w K mg base x k ps den := by
  obtain ⟨f, oc, od, an, osl, kV, doc, pm, cdv, ct, h1, h2, h3, h4⟩ := D
  have F := fun_mk (st := st) h2 h3 h4
  exact ⟨f, _, ok _ _ F, PySem.W.mg_of X G h1, h4, F.binds hb⟩
theorem ExcAt.ok (X : K.In h) (G : h.Ns mainGlobals mg) (E : ExcAt K x) : ExcK K mg x := by
  obtain ⟨C, h1, h2⟩ := E
  exact ⟨C, PySem.W.mg_of X G h1, h2⟩
theorem IntAt.ok {i : Int} (X : K.In h) (G : h.Ns mainGlobals mg) (E : IntAt K x i) : ∃ t, mg x = some (.int i t) := by
  obtain ⟨t, h1⟩ := E
  exact ⟨t, PySem.W.mg_of X G h1⟩
theorem StrsAt.ok {xs : List Str} {d : PyData} (X : K.In h) (G : h.Ns mainGlobals mg) (E : StrsAt K x xs) (hd : d = .tuple (xs.map .str)) : ∃ a, mg x = some (.ref a) ∧ ∀ (P : Program) (w : World) (G : Hp), Dv ⟨P, w, K⟩ G (.ref a) d := by
  obtain ⟨a, dd, its, n, sl, h1, h2, h3, h4⟩ := E
  subst hd
  have ds : ∀ {C : Wd} {G : Hp} (xs : List Str), DvAll C G (xs.map V.str) (xs.map .str) := fun {C G} xs => by
    induction xs with
    | nil => exact .nil
    | cons x r ih => exact .cons (.str x) ih
  exact ⟨a, PySem.W.mg_of X G h1, fun P w => dv_ktup (C := ⟨P, w, K⟩) h2 rfl rfl (Nat.le_trans h3 (by decide)) h4 fun G => ds xs⟩
end
section
variable {P : Program} {w : World} {K : PySem.W.Frag} {mg : Str → Option Value} {base h : Heap} {x : Str} {st : Stmt}
/-- a def with defaults by its body's denotation -/
theorem fd_ofD {qual : Str} {dvs : List V} {kws : List (Str × V)} {f : Addr} {fd : FuncData} {N ps : List Str} {k j : Nat} {F : SF} (Fn : FunD K x qual (defArgs st) (defBody st) (defScope st) dvs kws f fd) (S : FnScope N ps (defScope st)) (hj : N.length = ps.length + j)
    (hb : ∀ (cdv : Value) (A : Around) (outer : List Env) (s0 : Shared) (H : Hp) (E : XK), Room k (A.deeper (envOfC qual (defScope st) s0.heap.objs.size f cdv)) →
      FSs (cxOf (L2N.CX P w) P w K mg base N qual (defScope st) f cdv A outer s0 H E) (fun cls d _ H => E cls d H) (defBody st) F) :
    FnOk P w K mg base (L2N.CX P w) (k + 1) f fd ps (spD ⟨P, w, K⟩ mg ps.length (defF j F)) := by
  refine Fn.ok S (fun vs H Q E h => h.1) (fun cdv A outer s0 H vs Q E hr h => ?_)
  obtain ⟨hl, G, ad, st', ws, rs, rv, h⟩ := h
  obtain ⟨t, p, q⟩ := hb cdv A outer s0 H E hr
  refine ⟨t, p, q (L2.start N vs) H G ad (ws.map some ++ List.replicate j none) st' _ rs (repL_start rv (by omega)) ?_⟩
  unfold defF at h
  have hlen := rs.len
  generalize F (ws.map some ++ List.replicate j none) st' = r at h ⊢
  have cut : ∀ {G' ad' H'} {st'' : Sto}, Step G ad H G' ad' H' → RepS ⟨P, w, K⟩ G' ad' st'' H' → Step G ad H G' (ad'.take ad.length) H' ∧ RepS ⟨P, w, K⟩ G' (ad'.take ad.length) (st''.take st'.length) H' := fun s' rs' => ⟨s'.cut, by rw [hlen]; exact rs'.cut _⟩
  cases r with
  | nx ρ' st1 => exact fun σ' G' ad' H' s' rs' _ => h _ _ _ _ (cut s' rs').1 (cut s' rs').2 (.d .non)
  | rt w' st1 =>
    intro v G' ad' H' s' rs' rv'
    have h : PostF ⟨P, w, K⟩ mg G ad H (match frz w' st1 with | some (x, st2) => .ok (.d x) (st2.take st'.length) | none => .bad) Q E := h
    split at h
    · rename_i x st2 e
      obtain ⟨G2, s2, rs2, d2⟩ := frz_ok rs' rv' e
      have c := cut (s'.trans s2) rs2
      exact h _ _ _ _ c.1 c.2 (.d d2)
    · exact h.elim
  | exc c ρ' st1 =>
    obtain ⟨C, m, q⟩ := h
    exact ⟨C, m, fun σ' G' ad' H' s' rs' _ => q _ _ _ (cut s' rs').1 (cut s' rs').2⟩
  | bk => exact h.elim
  | ct => exact h.elim
  | bad => exact h.elim
theorem DefAtI.ok {k : Nat} {ps : List Str} {den : Den} {i : Int} (X : K.In h) (G : h.Ns mainGlobals mg) (D : DefAtI K x st i) (ok : ∀ f fd, FunD K x x (defArgs st) (defBody st) (defScope st) [.int i] [] f fd → FnOk P w K mg base (L2N.CX P w) k f fd ps (spD ⟨P, w, K⟩ mg ps.length den)) (n : Nat) (hn : n + 1 = ps.length)
    (hb : ∀ (T : Addr) (kV doc pm : Value) (an : Option Addr) (cdv ct : Value) (us its : List Value), us.length = n → its.length = 1 →
      ∃ k, bindArgs (PySem.W.fnOf x x (defArgs st) (defBody st) (defScope st) (.ref T) kV doc pm an cdv ct) ⟨us, []⟩ = seqItems? (.ref T) >>= k ∧ k (some its.toArray) = pure (ps.zip (us ++ its.drop 0))) : DefOkI P w K mg base x k ps den i := by
  obtain ⟨f, T, oc, od, an, osl, kV, doc, pm, cdv, ct, tc, td, tk, tn, tsl, h1, h2, h3, h4, h5⟩ := D
  have F : FunD K x x (defArgs st) (defBody st) (defScope st) [.int i] [] f (PySem.W.fnOf x x (defArgs st) (defBody st) (defScope st) (.ref T) kV doc pm an cdv ct) :=
    ⟨⟨oc, od, _, kV, doc, pm, an, cdv, ct, osl, rfl, h2, h3, .inr ⟨by simp, T, _, [.int i tk], tn, rfl, h5, rfl, .cons ⟨tk, rfl⟩ .nil⟩, .inl rfl⟩, h4⟩
  obtain ⟨ds, r, hbd⟩ := F.binds1 n 0 (by simp) (by simpa using hn) hb
  cases r with
  | cons r0 rt =>
    cases rt
    obtain ⟨t, rfl⟩ := r0
    exact ⟨f, _, t, ok _ _ F, PySem.W.mg_of X G h1, h4, hbd⟩
end
theorem walkL {l : PySem.W.OpenLaw} {q : Program} {loose : List Str} {XP : (Str → Option Value) → Heap → Prop} {YP : World → Heap → Prop} {d : DefRec} {K : Params → PySem.W.Frag} {k : Nat} {x : Str} {den : Den} (hn : l.most = some 63) (hdf : d.params.defaults = []) (hr : Room k callerA)
    (hY : ∀ (w : World) (h : Heap), YP w h → (K w.params).In h)
    (F : ∀ (w : World) (mg : Str → Option Value) (fa : Addr) (h : Heap), (K w.params).In h → h.Ns mainGlobals mg → mg d.name = some (.ref fa) →
      ∃ fd : FuncData, (∀ (s : Shared) (u : Value), BindsTo s fd ⟨[u], []⟩ [(x, u)]) ∧ ∀ base : Heap, (K w.params).In base → base.Ns mainGlobals mg → FnOk l.prog w (K w.params) mg base (L2N.CX l.prog w) k fa fd [x] (spL ⟨l.prog, w, K w.params⟩ den))
    (law : ∀ ns : List Int, ns.length ≤ 63 → ∃ st', den [.d (.list (ns.map .int))] [] = .ok (.d (.bool true)) st') :
    PySem.W.WalkO q loose XP YP l.row.toRowW d [] (fun f vs => PySem.call f vs) :=
  L2.walk_of (n := 63) (k := k) (x := x) (CX := fun w => L2N.CX l.prog w) (sp := fun w => spL ⟨l.prog, w, K w.params⟩ den) hn (by decide) hdf hr hY F (fun w H a ns hl _ hS => spL_start (C := ⟨l.prog, w, K w.params⟩) hS (law ns hl)) fun w H s e s' h => by
    obtain ⟨_, _, _, _, _, _, _, _, _, _, _, _, z⟩ := h
    exact z
section
variable {K : PySem.W.Frag} {x : Str} {st : Stmt} {i : Int} {xs : List Str} {f T C a : Addr} {oc : Value} {od an : Option Addr} {osl : Array (Option Value)} {kV doc pm cdv ct tc : Value} {td dd : Option Addr} {tk t : Tok} {tn n : Nat} {tsl sl : Array (Option Value)} {its : Array Value}
theorem DefAt.mk (h1 : PySem.W.nsIn K mainGlobals x = some (some (.ref f))) (h2 : K.lookup f = some ⟨oc, od, .func (PySem.W.fnOf x x (defArgs st) (defBody st) (defScope st) .none kV doc pm an cdv ct), osl⟩) (h3 : PySem.W.codeIn K cdv x = true) (h4 : PySem.W.keepIn K (.ref f) = true) : DefAt K x st :=
  ⟨f, oc, od, an, osl, kV, doc, pm, cdv, ct, h1, h2, h3, h4⟩
theorem DefAtI.mk (h1 : PySem.W.nsIn K mainGlobals x = some (some (.ref f))) (h2 : K.lookup f = some ⟨oc, od, .func (PySem.W.fnOf x x (defArgs st) (defBody st) (defScope st) (.ref T) kV doc pm an cdv ct), osl⟩) (h3 : PySem.W.codeIn K cdv x = true) (h4 : PySem.W.keepIn K (.ref f) = true) (h5 : K.lookup T = some ⟨tc, td, .seq #[.int i tk] tn, tsl⟩) : DefAtI K x st i :=
  ⟨f, T, oc, od, an, osl, kV, doc, pm, cdv, ct, tc, td, tk, tn, tsl, h1, h2, h3, h4, h5⟩
theorem ExcAt.mk (h1 : PySem.W.nsIn K mainGlobals x = some (some (.ref C))) (h2 : PySem.W.excIn K C [.type "ValueError", .type "Exception", .type "BaseException", .type "object"] "ValueError.__new__" = true) (h3 : PySem.W.keepIn K (.ref C) = true) (h4 : PySem.W.subIn K (.ref C) (.type "BaseException") = some true) (h5 : PySem.W.typeIn K (.ref C) = some (.type "type")) : ExcAt K x :=
  ⟨C, h1, h2, h3, h4, h5⟩
theorem IntAt.mk (h : PySem.W.nsIn K mainGlobals x = some (some (.int i t))) : IntAt K x i := ⟨t, h⟩
theorem StrsAt.mk (h1 : PySem.W.nsIn K mainGlobals x = some (some (.ref a))) (h2 : K.lookup a = some ⟨.type "tuple", dd, .seq its n, sl⟩) (h3 : its.size ≤ 1000) (h4 : Vals (xs.map V.str) its.toList) : StrsAt K x xs := ⟨a, dd, its, n, sl, h1, h2, h3, h4⟩
end
end Fx

namespace Fx
open PySem PySem.Spec L2
open PyProof.Rows hiding St

/-! ### the combinators, applied -/
@[simp] theorem cVar_zero (w : W) (r : Lv) (st : Sto) : cVar 0 (some w :: r) st = .ok w st := rfl
@[simp] theorem cVar_succ (i : Nat) (x : Option W) (r : Lv) (st : Sto) : cVar (i + 1) (x :: r) st = cVar i r st := rfl
@[simp] theorem cD_app (x : PyData) (ρ : Lv) (st : Sto) : cD x ρ st = .ok (.d x) st := rfl
@[simp] theorem c1_app (g : W → Sto → R W) (a : EF) (ρ : Lv) (st : Sto) : c1 g a ρ st = (a ρ st).bind g := rfl
@[simp] theorem c2_app (g : W → W → Sto → R W) (a b : EF) (ρ : Lv) (st : Sto) : c2 g a b ρ st = (a ρ st).bind fun x st => (b ρ st).bind fun y st => g x y st := rfl
@[simp] theorem aNil_app (ρ : Lv) (st : Sto) : aNil ρ st = .ok [] st := rfl
@[simp] theorem aCons_app (a : EF) (b : AF) (ρ : Lv) (st : Sto) : aCons a b ρ st = (a ρ st).bind fun x st => (b ρ st).bind fun xs st => .ok (x :: xs) st := rfl
@[simp] theorem cA_app (g : List W → Sto → R W) (a : AF) (ρ : Lv) (st : Sto) : cA g a ρ st = (a ρ st).bind g := rfl
@[simp] theorem tB_app (F : EF) (ρ : Lv) (st : Sto) : tB F ρ st = (F ρ st).bind asB := rfl
@[simp] theorem tNotF_app (F : TF) (ρ : Lv) (st : Sto) : tNotF F ρ st = (F ρ st).bind fun b st => .ok (!b) st := rfl
@[simp] theorem tAndF_app (F K : TF) (ρ : Lv) (st : Sto) : tAndF F K ρ st = (F ρ st).bind fun b st => if b = true then K ρ st else .ok false st := rfl
@[simp] theorem tOrF_app (F K : TF) (ρ : Lv) (st : Sto) : tOrF F K ρ st = (F ρ st).bind fun b st => if b = true then .ok true st else K ρ st := rfl
@[simp] theorem cIf_app (c : TF) (a b : EF) (ρ : Lv) (st : Sto) : cIf c a b ρ st = (c ρ st).bind fun k st => if k = true then a ρ st else b ρ st := rfl
@[simp] theorem cAnd_app (a b : EF) (ρ : Lv) (st : Sto) : cAnd a b ρ st = (a ρ st).bind fun w st => (asB w st).bind fun k st => if k = true then b ρ st else .ok (.d (.bool false)) st := rfl
@[simp] theorem cOr_app (a b : EF) (ρ : Lv) (st : Sto) : cOr a b ρ st = (a ρ st).bind fun w st => (asB w st).bind fun k st => if k = true then .ok (.d (.bool true)) st else b ρ st := rfl
@[simp] theorem cNot_app (a : EF) (ρ : Lv) (st : Sto) : cNot a ρ st = (a ρ st).bind fun w st => (asB w st).bind fun k st => .ok (.d (.bool (!k))) st := rfl
@[simp] theorem cChain_app (g g' : W → W → Sto → R W) (a b c : EF) (ρ : Lv) (st : Sto) : cChain g g' a b c ρ st = (a ρ st).bind fun x st => (b ρ st).bind fun y st => (g x y st).bind fun z st => (asB z st).bind fun k st =>
  if k = true then (c ρ st).bind fun w st => g' y w st else .ok (.d (.bool false)) st := rfl
@[simp] theorem asB_bool (b : Bool) (st : Sto) : asB (.d (.bool b)) st = .ok b st := rfl
@[simp] theorem sNx_app (ρ : Lv) (st : Sto) : sNx ρ st = .nx ρ st := rfl
@[simp] theorem sSeq_app (F K : SF) (ρ : Lv) (st : Sto) : sSeq F K ρ st = match F ρ st with | .nx ρ' st' => K ρ' st' | r => r := rfl
@[simp] theorem sSet_app (i : Nat) (a : EF) (ρ : Lv) (st : Sto) : sSet i a ρ st = (a ρ st).s ρ fun w st => .nx (ρ.set i (some w)) st := rfl
@[simp] theorem sRet_app (a : EF) (ρ : Lv) (st : Sto) : sRet a ρ st = (a ρ st).s ρ fun w st => .rt w st := rfl
@[simp] theorem sRetN_app (ρ : Lv) (st : Sto) : sRetN ρ st = .rt (.d .none) st := rfl
@[simp] theorem sExpr_app (a : EF) (ρ : Lv) (st : Sto) : sExpr a ρ st = (a ρ st).s ρ fun _ st => .nx ρ st := rfl
@[simp] theorem sIf_app (c : TF) (F K : SF) (ρ : Lv) (st : Sto) : sIf c F K ρ st = (c ρ st).s ρ fun b st => if b = true then F ρ st else K ρ st := rfl
@[simp] theorem sRaise_app (c : Str) (ρ : Lv) (st : Sto) : sRaise c ρ st = .exc c ρ st := rfl
@[simp] theorem sAsg_app (g : GF) (a : EF) (ρ : Lv) (st : Sto) : sAsg g a ρ st = (a ρ st).s ρ fun w st => match g w ρ st with | some ρ' => .nx ρ' st | none => .bad := rfl
@[simp] theorem sPar2_app (i j : Nat) (a : AF) (ρ : Lv) (st : Sto) : sPar2 i j a ρ st = (a ρ st).s ρ fun ws st => match ws with | [x, y] => .nx ((ρ.set i (some x)).set j (some y)) st | _ => .bad := rfl
@[simp] theorem sPar3_app (i j k : Nat) (a : AF) (ρ : Lv) (st : Sto) : sPar3 i j k a ρ st = (a ρ st).s ρ fun ws st => match ws with | [x, y, z] => .nx (((ρ.set i (some x)).set j (some y)).set k (some z)) st | _ => .bad := rfl
@[simp] theorem sFor_app (it : AF) (g : GF) (F : SF) (ρ : Lv) (st : Sto) : sFor it g F ρ st = (it ρ st).s ρ fun ws st => forF g F ws ρ st := rfl
@[simp] theorem gN_app (i : Nat) (w : W) (ρ : Lv) (st : Sto) : gN i w ρ st = some (ρ.set i (some w)) := rfl
@[simp] theorem gsNil_app (ρ : Lv) (st : Sto) : gsNil [] ρ st = some ρ := rfl
@[simp] theorem gsCons_app (g : GF) (k : GsF) (d : PyData) (ds : List PyData) (ρ : Lv) (st : Sto) : gsCons g k (d :: ds) ρ st = (g (.d d) ρ st).bind fun ρ => k ds ρ st := rfl
@[simp] theorem gT_app (n : Nat) (k : GsF) (ds : List PyData) (ρ : Lv) (st : Sto) : gT n k (.d (.tuple ds)) ρ st = if ds.length = n then k ds ρ st else none := rfl
@[simp] theorem finF_nx (n : Nat) (ρ : Lv) (st : Sto) : finF n (.nx ρ st) = .ok (.d .none) (st.take n) := rfl
@[simp] theorem finF_rt (n : Nat) (x : PyData) (st : Sto) : finF n (.rt (.d x) st) = .ok (.d x) (st.take n) := rfl
@[simp] theorem finF_exc (n : Nat) (c : Str) (ρ : Lv) (st : Sto) : finF n (.exc c ρ st) = .exc c (st.take n) := rfl
@[simp] theorem finFH_rt (n : Nat) (w : W) (st : Sto) : finFH n (.rt w st) = .ok w st := rfl
@[simp] theorem gA1_app (f : PyData → Option PyData) (w : W) (st : Sto) : gA1 f [w] st = g1 f w st := rfl
@[simp] theorem gA2_app (f : PyData → PyData → Option PyData) (w z : W) (st : Sto) : gA2 f [w, z] st = g2 f w z st := rfl
@[simp] theorem cSl_app (a : EF) (lo hi : OF) (ρ : Lv) (st : Sto) : cSl a lo hi ρ st = (a ρ st).bind fun w st => (lo ρ st).bind fun l st => (hi ρ st).bind fun h st => g1 (fSl l h) w st := rfl
@[simp] theorem pNone_app (ρ : Lv) (st : Sto) : pNone ρ st = .ok none st := rfl
theorem pSome_app (a : EF) (ρ : Lv) (st : Sto) : pSome a ρ st = (a ρ st).bind fun w st => match w with | .d (.int i) => .ok (some i) st | _ => .bad := rfl
theorem pSome_of {a : EF} {ρ : Lv} {st st' : Sto} {i : Int} (h : a ρ st = .ok (.d (.int i)) st') : pSome a ρ st = .ok (some i) st' := by rw [pSome_app, h]; rfl
@[simp] theorem fAdd_int (i j : Int) : fAdd (.int i) (.int j) = some (.int (i + j)) := rfl
@[simp] theorem fSub_int (i j : Int) : fSub (.int i) (.int j) = some (.int (i - j)) := rfl
@[simp] theorem fCmpI_int (p : Int → Int → Bool) (i j : Int) : fCmpI p (.int i) (.int j) = some (.bool (p i j)) := rfl
@[simp] theorem fLen_list (xs : List PyData) : fLen (.list xs) = some (.int xs.length) := rfl
@[simp] theorem fLen_tuple (xs : List PyData) : fLen (.tuple xs) = some (.int xs.length) := rfl
@[simp] theorem fMax2_int (i j : Int) : fMax2 (.int i) (.int j) = some (.int (max i j)) := by
  show some (PyData.int (if j > i then j else i)) = _
  rw [show (if j > i then j else i) = max i j by split <;> omega]
@[simp] theorem fMin2_int (i j : Int) : fMin2 (.int i) (.int j) = some (.int (min i j)) := by
  show some (PyData.int (if j < i then j else i)) = _
  rw [show (if j < i then j else i) = min i j by split <;> omega]
@[simp] theorem fTuple_list (xs : List PyData) : fTuple (.list xs) = some (.tuple xs) := rfl
@[simp] theorem fTuple_tuple (xs : List PyData) : fTuple (.tuple xs) = some (.tuple xs) := rfl
@[simp] theorem fList_list (xs : List PyData) : fList (.list xs) = some (.list xs) := rfl
@[simp] theorem fList_tuple (xs : List PyData) : fList (.tuple xs) = some (.list xs) := rfl
theorem frzs_data : ∀ (xs : List PyData) (st : Sto), frzs (xs.map .d) st = some (xs, st)
  | [], st => rfl
  | x :: r, st => by simp [frzs_data r st]
theorem datas_map : ∀ xs : List PyData, datas (xs.map .d) = some xs
  | [] => rfl
  | x :: r => by rw [List.map_cons]; unfold datas; rw [datas_map r]; rfl
@[simp] theorem packW_data (xs : List PyData) : packW (xs.map .d) = some (.d (.list xs)) := by unfold packW; rw [datas_map]

/-! ### loops -/
@[simp] theorem forF_nil (g : GF) (F : SF) (ρ : Lv) (st : Sto) : forF g F [] ρ st = .nx ρ st := rfl
theorem forF_cons (g : GF) (F : SF) (w : W) (ws : List W) (ρ : Lv) (st : Sto) : forF g F (w :: ws) ρ st = match g w ρ st with
    | none => .bad
    | some ρ1 => match F ρ1 st with
      | .nx ρ2 st2 => forF g F ws ρ2 st2
      | .ct ρ2 st2 => forF g F ws ρ2 st2
      | .bk ρ2 st2 => .nx ρ2 st2
      | r => r := rfl
/-- a loop that runs through, by what stands before each turn -/
theorem forF_inv {α : Type} {g : GF} {F : SF} (win : α → W) (I : List α → Lv → Sto → Prop) : ∀ (xs : List α) {ρ : Lv} {st : Sto}, I xs ρ st →
    (∀ x r ρ st, I (x :: r) ρ st → ∃ ρ1 ρ2 st2, g (win x) ρ st = some ρ1 ∧ F ρ1 st = .nx ρ2 st2 ∧ I r ρ2 st2) → ∃ ρ' st', forF g F (xs.map win) ρ st = .nx ρ' st' ∧ I [] ρ' st'
  | [], ρ, st, h, _ => ⟨ρ, st, rfl, h⟩
  | x :: r, ρ, st, h, k => by
    obtain ⟨ρ1, ρ2, st2, e1, e2, h2⟩ := k x r ρ st h
    obtain ⟨ρ', st', e3, h3⟩ := forF_inv win I r h2 k
    refine ⟨ρ', st', ?_, h3⟩
    rw [List.map_cons, forF_cons, e1]
    simp only [e2]
    exact e3
/-- a loop as a fold over typed states -/
theorem forF_fold {α S : Type} {g : GF} {F : SF} (win : α → W) (R : S → Lv) (M : S → Sto) (f : S → α → S) (P : S → Prop) : ∀ (xs : List α) (s : S), P s →
    (∀ x ∈ xs, ∀ s, P s → ∃ ρ1, g (win x) (R s) (M s) = some ρ1 ∧ F ρ1 (M s) = .nx (R (f s x)) (M (f s x)) ∧ P (f s x)) → forF g F (xs.map win) (R s) (M s) = .nx (R (xs.foldl f s)) (M (xs.foldl f s)) ∧ P (xs.foldl f s)
  | [], s, h, _ => ⟨rfl, h⟩
  | x :: r, s, h, k => by
    obtain ⟨ρ1, e1, e2, h2⟩ := k x List.mem_cons_self s h
    have ih := forF_fold win R M f P r (f s x) h2 fun y hy => k y (List.mem_cons_of_mem _ hy)
    rw [List.map_cons, forF_cons, e1]
    simp only [e2]
    exact ih
theorem lcF_nil (g : GF) (T : TF) (e : EF) (ρ : Lv) (acc : List W) (st : Sto) : lcF g T e ρ [] acc st = match packW acc with | some w => .ok w st | none => .bad := rfl
theorem lcF_cons (g : GF) (T : TF) (e : EF) (ρ : Lv) (w : W) (ws acc : List W) (st : Sto) : lcF g T e ρ (w :: ws) acc st = match g w ρ st with
    | none => .bad
    | some ρ1 => match T ρ1 st with
      | .ok true st1 => match e ρ1 st1 with
        | .ok y st2 => lcF g T e ρ ws (acc ++ [y]) st2
        | _ => .bad
      | .ok false st1 => lcF g T e ρ ws acc st1
      | _ => .bad := rfl
/-- a comprehension over data -/
theorem lcF_filter {α : Type} {g : GF} {T : TF} {e : EF} {ρ : Lv} {st : Sto} (win : α → W) (p : α → Bool) (out : α → PyData) : ∀ (xs : List α) (acc : List PyData),
    (∀ x ∈ xs, ∃ ρ1, g (win x) ρ st = some ρ1 ∧ T ρ1 st = .ok (p x) st ∧ (p x = true → e ρ1 st = .ok (.d (out x)) st)) → lcF g T e ρ (xs.map win) (acc.map .d) st = .ok (.d (.list (acc ++ (xs.filter p).map out))) st
  | [], acc, _ => by rw [List.map_nil, lcF_nil, packW_data]; simp
  | x :: r, acc, k => by
    obtain ⟨ρ1, e1, e2, e3⟩ := k x List.mem_cons_self
    have ih := fun acc => lcF_filter win p out r acc fun y hy => k y (List.mem_cons_of_mem _ hy)
    rw [List.map_cons, lcF_cons, e1]
    simp only [e2]
    cases hp : p x with
    | true =>
      simp only [e3 hp]
      have := ih (acc ++ [out x])
      rw [List.map_append] at this
      rw [show acc.map W.d ++ [W.d (out x)] = acc.map W.d ++ [out x].map W.d from rfl, this]
      simp [hp]
    | false => simp only []; rw [ih acc]; simp [hp]
theorem lcF_map {α : Type} {g : GF} {T : TF} {e : EF} {ρ : Lv} {st : Sto} (win : α → W) (out : α → PyData) (xs : List α)
    (k : ∀ x ∈ xs, ∃ ρ1, g (win x) ρ st = some ρ1 ∧ T ρ1 st = .ok true st ∧ e ρ1 st = .ok (.d (out x)) st) : lcF g T e ρ (xs.map win) [] st = .ok (.d (.list (xs.map out))) st := by
  have := lcF_filter (g := g) (T := T) (e := e) (ρ := ρ) (st := st) win (fun _ => true) out xs [] fun x hx => let ⟨ρ1, a, b, c⟩ := k x hx; ⟨ρ1, a, b, fun _ => c⟩
  have e : xs.filter (fun _ => true) = xs := List.filter_eq_self.mpr fun _ _ => rfl
  rw [e] at this
  simpa using this
@[simp] theorem cLc_app (it : AF) (own : List Nat) (g : GF) (T : TF) (e : EF) (ρ : Lv) (st : Sto) : cLc it own g T e ρ st = (it ρ st).bind fun ws st => if ws.length ≤ sizeLine then lcF g T e (wipeL ρ own) ws [] st else .bad := rfl
@[simp] theorem tYesF_app (ρ : Lv) (st : Sto) : tYesF ρ st = .ok true st := rfl
@[simp] theorem wipeL_nil (ρ : Lv) : wipeL ρ [] = ρ := rfl
@[simp] theorem wipeL_cons (ρ : Lv) (v : Nat) (vs : List Nat) : wipeL ρ (v :: vs) = (wipeL ρ vs).set v none := rfl
theorem small_le {n : Nat} (h : n ≤ 1000000) : n ≤ sizeLine := by rw [sizeLine_eq]; omega

/-! ### typed data: what == says of it -/
structure Rep {α : Type} [DecidableEq α] (f : α → PyData) (k : Nat) : Prop where
  lay : ∀ a, (f a).canLay0 = true
  dep : ∀ a, (f a).depth ≤ k
  eqv : ∀ a b, PyData.eqv (f a) (f b) = decide (a = b)
theorem Rep.shp {α : Type} [DecidableEq α] {f : α → PyData} {k : Nat} (h : Rep f k) (hk : k ≤ 64) (a : α) : shp (f a) = true := by
  show (_ && _) = true
  rw [h.lay a, Bool.true_and, decide_eq_true_eq]
  exact Nat.le_trans (h.dep a) hk
theorem Rep.eq {α : Type} [DecidableEq α] {f : α → PyData} {k : Nat} (h : Rep f k) (hk : k ≤ 64) (a b : α) : fEq (f a) (f b) = some (.bool (decide (a = b))) := by
  unfold fEq; rw [if_pos ⟨h.shp hk a, h.shp hk b⟩, h.eqv]
theorem Rep.ne {α : Type} [DecidableEq α] {f : α → PyData} {k : Nat} (h : Rep f k) (hk : k ≤ 64) (a b : α) : fNe (f a) (f b) = some (.bool (!decide (a = b))) := by
  unfold fNe; rw [if_pos ⟨h.shp hk a, h.shp hk b⟩, h.eqv]
theorem rep_int : Rep PyData.int 0 := ⟨fun _ => rfl, fun _ => Nat.le_refl _, fun a b => by show (a == b) = decide (a = b); by_cases h : a = b <;> simp [h]⟩
theorem rep_bool : Rep PyData.bool 0 := ⟨fun _ => rfl, fun _ => Nat.le_refl _, fun a b => by cases a <;> cases b <;> rfl⟩
section
variable {α β : Type} [DecidableEq α] [DecidableEq β] {f : α → PyData} {f' : β → PyData} {k k' : Nat}
theorem layAll (h : ∀ a, (f a).canLay0 = true) : ∀ xs : List α, PyData.canLayAll0 (xs.map f) = true
  | [] => rfl
  | x :: r => by rw [List.map_cons]; show (_ && _) = true; rw [h x, layAll h r]; rfl
theorem depAll (h : ∀ a, (f a).depth ≤ k) : ∀ xs : List α, PyData.depthAll (xs.map f) ≤ k
  | [] => Nat.zero_le _
  | x :: r => by rw [List.map_cons]; show max _ _ ≤ k; exact Nat.max_le.mpr ⟨h x, depAll h r⟩
theorem eqvAll (h : ∀ a b, PyData.eqv (f a) (f b) = decide (a = b)) : ∀ xs ys : List α, PyData.eqvAll (xs.map f) (ys.map f) = decide (xs = ys)
  | [], [] => rfl
  | [], _ :: _ => rfl
  | _ :: _, [] => rfl
  | x :: r, y :: q => by
    rw [List.map_cons, List.map_cons]
    show (_ && _) = _
    rw [h x y, eqvAll h r q]
    by_cases e : x = y <;> by_cases e2 : r = q <;> simp [e, e2]
theorem rep_list (h : Rep f k) : Rep (fun xs : List α => PyData.list (xs.map f)) (k + 1) := ⟨fun xs => layAll h.lay xs, fun xs => Nat.succ_le_succ (depAll h.dep xs), fun xs ys => eqvAll h.eqv xs ys⟩
theorem rep_tup (h : Rep f k) : Rep (fun xs : List α => PyData.tuple (xs.map f)) (k + 1) := ⟨fun xs => layAll h.lay xs, fun xs => Nat.succ_le_succ (depAll h.dep xs), fun xs ys => eqvAll h.eqv xs ys⟩
theorem rep_pair (h : Rep f k) (h' : Rep f' k') : Rep (fun p : α × β => PyData.tuple [f p.1, f' p.2]) (max k k' + 1) where
  lay p := by show (_ && (_ && true)) = true; rw [h.lay, h'.lay]; rfl
  dep p := by
    have a := h.dep p.1
    have b := h'.dep p.2
    show max _ (max _ 0) + 1 ≤ _
    omega
  eqv p q := by
    show (_ && (_ && true)) = _
    rw [h.eqv, h'.eqv]
    obtain ⟨a, b⟩ := p
    obtain ⟨c, d⟩ := q
    by_cases e : a = c <;> by_cases e2 : b = d <;> simp [e, e2]
theorem rep_pr : Rep prD 1 := rep_pair rep_int rep_int
def optD : Option Int → PyData
  | none => .none
  | some i => .int i
theorem rep_opt : Rep optD 0 := ⟨fun a => by cases a <;> rfl, fun a => by cases a <;> exact Nat.le_refl _, fun a b => by
  cases a with
  | none => cases b <;> rfl
  | some i => cases b with
    | none => rfl
    | some j => show (i == j) = _; by_cases h : i = j <;> simp [h]⟩
/-- membership -/
theorem Rep.any (h : Rep f k) (x : α) : ∀ xs : List α, ((xs.map f).any fun z => PyData.eqv z (f x)) = decide (x ∈ xs)
  | [] => rfl
  | y :: r => by
    rw [List.map_cons, List.any_cons, h.eqv, h.any x r]
    by_cases e : y = x
    · simp [e]
    · have : ¬ x = y := fun z => e z.symm
      simp [e, this]
theorem Rep.in_list (h : Rep f k) (hk : k < 64) (neg : Bool) (x : α) (xs : List α) : fIn' neg (f x) (.list (xs.map f)) = some (.bool (neg != decide (x ∈ xs))) := by
  unfold fIn' fIn
  simp only
  rw [if_pos ⟨h.shp (Nat.le_of_lt hk) x, (rep_list h).shp hk xs⟩, h.any]
theorem Rep.in_tup (h : Rep f k) (hk : k < 64) (neg : Bool) (x : α) (xs : List α) : fIn' neg (f x) (.tuple (xs.map f)) = some (.bool (neg != decide (x ∈ xs))) := by
  unfold fIn' fIn
  simp only
  rw [if_pos ⟨h.shp (Nat.le_of_lt hk) x, (rep_tup h).shp hk xs⟩, h.any]
end

/-! ### places and cuts -/
theorem atI_map {α β : Type} (f : α → β) (xs : List α) (i : Int) : atI (xs.map f) i = (atI xs i).map f := by
  unfold atI
  rw [List.length_map]
  cases ixN xs.length i with
  | none => rfl
  | some j => simp
theorem atI_nn {α : Type} {xs : List α} {i : Int} (h0 : 0 ≤ i) (h1 : i < xs.length) : atI xs i = xs[i.toNat]? := by
  unfold atI ixN
  rw [if_pos h0, if_pos h1]; rfl
theorem cutD_map {α : Type} (f : α → PyData) (xs : List α) (lo hi : Option Int) : cutD (xs.map f) lo hi = ((xs.drop (HT.sIx xs.length 0 lo)).take (HT.sIx xs.length xs.length hi - HT.sIx xs.length 0 lo)).map f := by
  unfold cutD
  rw [List.length_map, List.map_take, List.map_drop]
theorem sIx_nn {n d : Nat} {i : Int} (h : 0 ≤ i) : HT.sIx n d (some i) = min i.toNat n := by
  unfold HT.sIx
  simp only
  rw [if_neg (by omega)]
end Fx

namespace Fx
open PySem PySem.Spec L2
open PyProof.Rows hiding St

/-! ### the wheels, in plain Lean -/
inductive Tn where
  | cp | cm | rp | rm
  deriving DecidableEq
def Tn.s : Tn → Str
  | .cp => "C+" | .cm => "C-" | .rp => "R+" | .rm => "R-"
def tD (t : Tn) : PyData := .str t.s
theorem rep_tn : Rep tD 0 := ⟨fun t => by cases t <;> decide +kernel, fun _ => Nat.le_refl _, fun t u => by cases t <;> cases u <;> decide +kernel⟩
abbrev iL (L : List Int) : PyData := .tuple (L.map .int)
abbrev scD (S : List Tn) : PyData := .tuple (S.map tD)
def gL (L : List Int) (r : Int) : Int := L.getD r.toNat 0
def nxr (L : List Int) (r : Int) : Tn → Int
  | .rp => (r + 1) % L.length
  | .rm => (r - 1) % L.length
  | _ => r
def aft (L : List Int) (s : Pr) (t : Tn) : Pr := match t with
  | .cp => (s.1, (s.2 + 1) % gL L s.1)
  | .cm => (s.1, (s.2 - 1) % gL L s.1)
  | t => (nxr L s.1 t, min s.2 (gL L (nxr L s.1 t) - 1))
structure OkL (L : List Int) : Prop where
  ne : 1 ≤ L.length
  le : L.length ≤ 12
  all : ∀ x ∈ L, 1 ≤ x ∧ x ≤ 31
structure OkS (L : List Int) (s : Pr) : Prop where
  r0 : 0 ≤ s.1
  r1 : s.1 < L.length
  c0 : 0 ≤ s.2
  c1 : s.2 < gL L s.1
theorem gL_at {L : List Int} {r : Int} (h0 : 0 ≤ r) (h1 : r < L.length) : L[r.toNat]? = some (gL L r) := by
  unfold gL
  rw [List.getD_eq_getElem?_getD, List.getElem?_eq_getElem (by omega)]; rfl
theorem gL_mem {L : List Int} {r : Int} (h0 : 0 ≤ r) (h1 : r < L.length) : gL L r ∈ L := List.mem_of_getElem? (gL_at h0 h1)
theorem OkL.at {L : List Int} (h : OkL L) {r : Int} (h0 : 0 ≤ r) (h1 : r < L.length) : 1 ≤ gL L r ∧ gL L r ≤ 31 := h.all _ (gL_mem h0 h1)
theorem fIx_iL {L : List Int} {r : Int} (h0 : 0 ≤ r) (h1 : r < L.length) : fIx (iL L) (.int r) = some (.int (gL L r)) := by
  show atI (L.map PyData.int) r = _
  rw [atI_map, atI_nn h0 h1, gL_at h0 h1]; rfl
theorem fMod_int {i j : Int} (h : 0 < j) : fMod (.int i) (.int j) = some (.int (i % j)) := by
  show (if 0 < j then some (PyData.int (i % j)) else none) = _
  rw [if_pos h]
theorem OkL.len {L : List Int} (h : OkL L) : (0 : Int) < L.length := by have := h.ne; omega
theorem nxr_ok {L : List Int} (h : OkL L) {r : Int} (h0 : 0 ≤ r) (h1 : r < L.length) (t : Tn) : 0 ≤ nxr L r t ∧ nxr L r t < L.length := by
  have hl := h.len
  cases t
  · exact ⟨h0, h1⟩
  · exact ⟨h0, h1⟩
  · exact ⟨Int.emod_nonneg _ (by omega), Int.emod_lt_of_pos _ hl⟩
  · exact ⟨Int.emod_nonneg _ (by omega), Int.emod_lt_of_pos _ hl⟩
theorem aft_ok {L : List Int} (h : OkL L) {s : Pr} (hs : OkS L s) (t : Tn) : OkS L (aft L s t) := by
  have a := h.at hs.r0 hs.r1
  have b := nxr_ok h hs.r0 hs.r1 t
  have c := h.at b.1 b.2
  cases t
  · exact ⟨hs.r0, hs.r1, Int.emod_nonneg _ (by show gL L s.1 ≠ 0; omega), Int.emod_lt_of_pos _ (by show 0 < gL L s.1; omega)⟩
  · exact ⟨hs.r0, hs.r1, Int.emod_nonneg _ (by show gL L s.1 ≠ 0; omega), Int.emod_lt_of_pos _ (by show 0 < gL L s.1; omega)⟩
  · exact ⟨b.1, b.2, by show 0 ≤ min s.2 (gL L (nxr L s.1 .rp) - 1); have := hs.c0; omega, by show min s.2 (gL L (nxr L s.1 .rp) - 1) < gL L (nxr L s.1 .rp); omega⟩
  · exact ⟨b.1, b.2, by show 0 ≤ min s.2 (gL L (nxr L s.1 .rm) - 1); have := hs.c0; omega, by show min s.2 (gL L (nxr L s.1 .rm) - 1) < gL L (nxr L s.1 .rm); omega⟩
theorem run_ok {L : List Int} (h : OkL L) : ∀ (S : List Tn) {s : Pr}, OkS L s → OkS L (S.foldl (aft L) s)
  | [], _, hs => hs
  | t :: r, _, hs => run_ok h r (aft_ok h hs t)
/-! the strings of the turns -/
@[simp] theorem eq_cp_cp : fEq (.str "C+") (.str "C+") = some (.bool true) := rep_tn.eq (by decide) .cp .cp
@[simp] theorem eq_cp_cm : fEq (.str "C+") (.str "C-") = some (.bool false) := rep_tn.eq (by decide) .cp .cm
@[simp] theorem eq_cp_rp : fEq (.str "C+") (.str "R+") = some (.bool false) := rep_tn.eq (by decide) .cp .rp
@[simp] theorem eq_cp_rm : fEq (.str "C+") (.str "R-") = some (.bool false) := rep_tn.eq (by decide) .cp .rm
@[simp] theorem eq_cm_cp : fEq (.str "C-") (.str "C+") = some (.bool false) := rep_tn.eq (by decide) .cm .cp
@[simp] theorem eq_cm_cm : fEq (.str "C-") (.str "C-") = some (.bool true) := rep_tn.eq (by decide) .cm .cm
@[simp] theorem eq_cm_rp : fEq (.str "C-") (.str "R+") = some (.bool false) := rep_tn.eq (by decide) .cm .rp
@[simp] theorem eq_cm_rm : fEq (.str "C-") (.str "R-") = some (.bool false) := rep_tn.eq (by decide) .cm .rm
@[simp] theorem eq_rp_cp : fEq (.str "R+") (.str "C+") = some (.bool false) := rep_tn.eq (by decide) .rp .cp
@[simp] theorem eq_rp_cm : fEq (.str "R+") (.str "C-") = some (.bool false) := rep_tn.eq (by decide) .rp .cm
@[simp] theorem eq_rp_rp : fEq (.str "R+") (.str "R+") = some (.bool true) := rep_tn.eq (by decide) .rp .rp
@[simp] theorem eq_rp_rm : fEq (.str "R+") (.str "R-") = some (.bool false) := rep_tn.eq (by decide) .rp .rm
@[simp] theorem eq_rm_cp : fEq (.str "R-") (.str "C+") = some (.bool false) := rep_tn.eq (by decide) .rm .cp
@[simp] theorem eq_rm_cm : fEq (.str "R-") (.str "C-") = some (.bool false) := rep_tn.eq (by decide) .rm .cm
@[simp] theorem eq_rm_rp : fEq (.str "R-") (.str "R+") = some (.bool false) := rep_tn.eq (by decide) .rm .rp
@[simp] theorem eq_rm_rm : fEq (.str "R-") (.str "R-") = some (.bool true) := rep_tn.eq (by decide) .rm .rm
@[simp] theorem ix_cp : fIx (.str "C+") (.int 0) = some (.str "C") := by with_unfolding_all rfl
@[simp] theorem ix_cm : fIx (.str "C-") (.int 0) = some (.str "C") := by with_unfolding_all rfl
@[simp] theorem ix_rp : fIx (.str "R+") (.int 0) = some (.str "R") := by with_unfolding_all rfl
@[simp] theorem ix_rm : fIx (.str "R-") (.int 0) = some (.str "R") := by with_unfolding_all rfl
theorem fEq_str {x y : Str} {b : Bool} (h1 : shp (.str x) = true) (h2 : shp (.str y) = true) (h3 : (x == y) = b) : fEq (.str x) (.str y) = some (.bool b) := by
  unfold fEq
  rw [if_pos ⟨h1, h2⟩]
  show some (PyData.bool (x == y)) = _
  rw [h3]
@[simp] theorem eq_C_C : fEq (.str "C") (.str "C") = some (.bool true) := fEq_str (by decide +kernel) (by decide +kernel) (by decide +kernel)
@[simp] theorem eq_R_C : fEq (.str "R") (.str "C") = some (.bool false) := fEq_str (by decide +kernel) (by decide +kernel) (by decide +kernel)
@[simp] theorem eqT_cp (t : Tn) : fEq (tD t) (.str "C+") = some (.bool (decide (t = .cp))) := rep_tn.eq (by decide) t .cp
@[simp] theorem eqT_cm (t : Tn) : fEq (tD t) (.str "C-") = some (.bool (decide (t = .cm))) := rep_tn.eq (by decide) t .cm
@[simp] theorem eqT_rp (t : Tn) : fEq (tD t) (.str "R+") = some (.bool (decide (t = .rp))) := rep_tn.eq (by decide) t .rp
@[simp] theorem eqT_rm (t : Tn) : fEq (tD t) (.str "R-") = some (.bool (decide (t = .rm))) := rep_tn.eq (by decide) t .rm
def Tn.isC : Tn → Bool
  | .cp => true | .cm => true | _ => false
def Tn.hd (t : Tn) : Str := if t.isC = true then "C" else "R"
@[simp] theorem ixT (t : Tn) : fIx (tD t) (.int 0) = some (.str t.hd) := by cases t <;> with_unfolding_all rfl
@[simp] theorem eqT_C (t : Tn) : fEq (.str t.hd) (.str "C") = some (.bool t.isC) := by cases t <;> first | exact eq_C_C | exact eq_R_C
/-! ### what is walked -/
def walkW (w : W) (st : Sto) : R (List W) := match w with
  | .hs ns => .ok (ns.map .h) st
  | w => match frz w st with | none => .bad | some (x, st) => match walkD x with | some xs => .ok (xs.map .d) st | none => .bad
@[simp] theorem iSeqF_app (a : EF) (ρ : Lv) (st : Sto) : iSeqF a ρ st = (a ρ st).bind walkW := rfl
@[simp] theorem walkW_tup (xs : List PyData) (st : Sto) : walkW (.d (.tuple xs)) st = .ok (xs.map .d) st := rfl
@[simp] theorem walkW_lst (xs : List PyData) (st : Sto) : walkW (.d (.list xs)) st = .ok (xs.map .d) st := rfl
@[simp] theorem walkW_hs (ns : List Nat) (st : Sto) : walkW (.hs ns) st = .ok (ns.map .h) st := rfl
/-- the ints 0 .. n - 1 -/
def rg (n : Int) : List Int := (List.range n.toNat).map fun (i : Nat) => (i : Int)
theorem mem_rg {n i : Int} : i ∈ rg n ↔ 0 ≤ i ∧ i < n := by
  unfold rg
  rw [List.mem_map]
  constructor
  · rintro ⟨k, hk, rfl⟩; rw [List.mem_range] at hk; omega
  · rintro ⟨h0, h1⟩; exact ⟨i.toNat, List.mem_range.mpr (by omega), by omega⟩
theorem rg_length (n : Int) : (rg n).length = n.toNat := by unfold rg; simp
theorem gRange1_eq {n : Int} (h0 : 0 ≤ n) (h1 : n ≤ 1000000) (st : Sto) : gRange1 [.d (.int n)] st = .ok ((rg n).map fun i => .d (.int i)) st := by
  unfold gRange1
  simp only
  rw [if_pos (big62_of h0 (by omega))]
  unfold rangeL rg
  rw [List.map_map, List.map_map]
  congr 1
  exact List.map_congr_left fun i _ => by show W.d (.int (0 + i)) = W.d (.int i); rw [Int.zero_add]
theorem boolsD_map {α : Type} (p : α → Bool) : ∀ xs : List α, boolsD (xs.map fun x => .bool (p x)) = some (xs.map p)
  | [] => rfl
  | x :: r => by rw [List.map_cons]; unfold boolsD; rw [boolsD_map p r]; rfl
theorem fAll_map {α : Type} (p : α → Bool) (xs : List α) : fAll (.list (xs.map fun x => .bool (p x))) = some (.bool (xs.all p)) := by
  show (boolsD _).map _ = _
  rw [boolsD_map]
  simp [List.all_map]
theorem turns_in (t : Tn) : fIn' false (tD t) (.tuple [.str "C+", .str "C-", .str "R+", .str "R-"]) = some (.bool true) := by
  have h := rep_tn.in_tup (by decide) false t [.cp, .cm, .rp, .rm]
  have e : decide (t ∈ [Tn.cp, .cm, .rp, .rm]) = true := by cases t <;> decide
  rw [e] at h
  exact h
@[simp] theorem fIsi_int (T : String) (i : Int) : fIsi T (.int i) = some (.bool (isiB "int" T)) := rfl
@[simp] theorem fIsi_tup (T : String) (xs : List PyData) : fIsi T (.tuple xs) = some (.bool (isiB "tuple" T)) := rfl
@[simp] theorem fIsi_lst (T : String) (xs : List PyData) : fIsi T (.list xs) = some (.bool (isiB "list" T)) := rfl
@[simp] theorem fIsi_tn (T : String) (t : Tn) : fIsi T (tD t) = some (.bool (isiB "str" T)) := rfl
@[simp] theorem fIsi_pr (T : String) (p : Pr) : fIsi T (prD p) = some (.bool (isiB "tuple" T)) := rfl
@[simp] theorem isiB_tt : isiB "tuple" "tuple" = true := by decide
@[simp] theorem isiB_ss : isiB "str" "str" = true := by decide
@[simp] theorem isiB_ii : isiB "int" "int" = true := by decide
@[simp] theorem isiB_ib : isiB "int" "bool" = false := by decide
@[simp] theorem fLen_iL (L : List Int) : fLen (iL L) = some (.int L.length) := by simp [iL]
@[simp] theorem fLen_scD (S : List Tn) : fLen (scD S) = some (.int S.length) := by simp [scD]
/-! ### enumerate, handles -/
def enF {α : Type} : Nat → List α → List (Int × α)
  | _, [] => []
  | k, x :: r => ((k : Int), x) :: enF (k + 1) r
theorem packE_map {α : Type} (f : α → PyData) : ∀ (k : Nat) (xs : List α), packE k (xs.map f) = (enF k xs).map fun p => .d (.tuple [.int p.1, f p.2])
  | _, [] => rfl
  | k, x :: r => by rw [List.map_cons]; unfold packE enF; rw [packE_map f (k + 1) r]; rfl
theorem enF_map {α β : Type} (f : α → β) : ∀ (k : Nat) (xs : List α), enF k (xs.map f) = (enF k xs).map fun p => (p.1, f p.2)
  | _, [] => rfl
  | k, x :: r => by rw [List.map_cons]; unfold enF; rw [enF_map f (k + 1) r]; rfl
theorem enF_len {α : Type} : ∀ (k : Nat) (xs : List α), (enF k xs).length = xs.length
  | _, [] => rfl
  | k, x :: r => by simp [enF, enF_len (k + 1) r]
theorem enF_at {α : Type} : ∀ (k : Nat) (xs : List α) (p : Int × α), p ∈ enF k xs → ∃ j : Nat, p.1 = ((k + j : Nat) : Int) ∧ xs[j]? = some p.2
  | _, [], p, h => (List.not_mem_nil h).elim
  | k, x :: r, p, h => by
    unfold enF at h
    rcases List.mem_cons.mp h with rfl | h
    · exact ⟨0, rfl, rfl⟩
    · obtain ⟨j, h1, h2⟩ := enF_at (k + 1) r p h
      exact ⟨j + 1, by rw [h1]; congr 1; omega, by simpa using h2⟩
def enumW (w : W) (st : Sto) : R (List W) := match frz w st with | none => .bad | some (x, st) => match seqOf x with | some xs => .ok (packE 0 xs) st | none => .bad
@[simp] theorem iEnumF_app (a : EF) (ρ : Lv) (st : Sto) : iEnumF a ρ st = (a ρ st).bind enumW := rfl
@[simp] theorem enumW_tup (xs : List PyData) (st : Sto) : enumW (.d (.tuple xs)) st = .ok (packE 0 xs) st := rfl
@[simp] theorem enumW_lst (xs : List PyData) (st : Sto) : enumW (.d (.list xs)) st = .ok (packE 0 xs) st := rfl
/-- the last object of the store, a list -/
theorem isLst_end (st : Sto) (xs : List PyData) : isLst (st ++ [⟨true, .lst xs⟩]) st.length = true := by unfold isLst; simp
theorem gApp_end (st : Sto) (xs : List PyData) (x : PyData) (hz : xs.length < sizeLine) : gApp (.h st.length) (.d x) (st ++ [⟨true, .lst xs⟩]) = .ok (.d .none) (st ++ [⟨true, .lst (xs ++ [x])⟩]) := by
  unfold gApp
  simp only [frz_d]
  have e : liveL (st ++ [⟨true, .lst xs⟩]) (.h st.length) = some (st.length, xs) := by unfold liveL; simp
  rw [e]
  simp only
  rw [if_pos hz, List.set_append_right _ _ (Nat.le_refl _)]
  simp
@[simp] theorem cApp_app (a b : EF) (ρ : Lv) (st : Sto) : cApp a b ρ st = (a ρ st).bind fun w st => match w with | .h n => if isLst st n = true then (b ρ st).bind fun z st => gApp (.h n) z st else .bad | _ => .bad := rfl
theorem finF_end (st : Sto) (xs : List PyData) : finF st.length (.rt (.h st.length) (st ++ [⟨true, .lst xs⟩])) = .ok (.d (.list xs)) st := by
  have e : frz (.h st.length) (st ++ [⟨true, .lst xs⟩]) = some (.list xs, st ++ [⟨false, .lst xs⟩]) := by
    show (match (st ++ [(⟨true, .lst xs⟩ : MO)])[st.length]? with | some m => some (m.c.data, (st ++ [(⟨true, .lst xs⟩ : MO)]).set st.length ⟨false, m.c⟩) | none => none) = _
    rw [List.getElem?_append_right (Nat.le_refl _)]
    simp [MC.data]
  show (match frz (.h st.length) (st ++ [⟨true, .lst xs⟩]) with | some (x, st') => R.ok (W.d x) (st'.take st.length) | none => .bad) = _
  rw [e]
  simp
@[simp] theorem gLstH_nil (st : Sto) : gLstH [] st = .ok (.h st.length) (st ++ [⟨true, .lst []⟩]) := rfl
/-- a loop that puts some of the items' results into the last list -/
theorem forF_collect {α β : Type} {g : GF} {F : SF} {st : Sto} (win : α → W) (R : β → Lv) (nxt : α → β) (p : α → Bool) (out : α → PyData) (xs : List α) (w0 : β) (hz : xs.length < 1000000)
    (k : ∀ x ∈ xs, ∀ w acc, acc.length < sizeLine → ∃ ρ1, g (win x) (R w) (st ++ [⟨true, .lst acc⟩]) = some ρ1 ∧ F ρ1 (st ++ [⟨true, .lst acc⟩]) = .nx (R (nxt x)) (st ++ [⟨true, .lst (if p x = true then acc ++ [out x] else acc)⟩])) :
    ∃ w', forF g F (xs.map win) (R w0) (st ++ [⟨true, .lst []⟩]) = .nx (R w') (st ++ [⟨true, .lst ((xs.filter p).map out)⟩]) := by
  have main : ∀ (ys : List α) (acc : List PyData) (w : β), (∀ y ∈ ys, y ∈ xs) → acc.length + ys.length < 1000000 →
      ∃ w', forF g F (ys.map win) (R w) (st ++ [⟨true, .lst acc⟩]) = .nx (R w') (st ++ [⟨true, .lst (acc ++ (ys.filter p).map out)⟩]) := by
    intro ys
    induction ys with
    | nil => intro acc w _ _; exact ⟨w, by simp⟩
    | cons y r ih =>
      intro acc w hs hl
      obtain ⟨ρ1, e1, e2⟩ := k y (hs y List.mem_cons_self) w acc (by have := small_le (n := 1000000) (Nat.le_refl _); simp at hl; omega)
      rw [List.map_cons, forF_cons, e1]
      simp only [e2]
      cases hp : p y with
      | true =>
        obtain ⟨w', e⟩ := ih (acc ++ [out y]) (nxt y) (fun z hz => hs z (List.mem_cons_of_mem _ hz)) (by simp at hl ⊢; omega)
        exact ⟨w', by simp only [if_true]; rw [e]; simp [hp]⟩
      | false =>
        obtain ⟨w', e⟩ := ih acc (nxt y) (fun z hz => hs z (List.mem_cons_of_mem _ hz)) (by simp at hl ⊢; omega)
        exact ⟨w', by simp only [Bool.false_eq_true, if_false]; rw [e]; simp [hp]⟩
  obtain ⟨w', e⟩ := main xs [] w0 (fun _ h => h) (by simpa using hz)
  exact ⟨w', by rw [e]; simp⟩
@[simp] theorem fIx_list0 (x : PyData) (r : List PyData) : fIx (.list (x :: r)) (.int 0) = some x := by
  show atI (x :: r) 0 = _; rw [atI_nn (by decide) (by simp only [List.length_cons]; omega)]; rfl
@[simp] theorem fIx_tup0 (x : PyData) (r : List PyData) : fIx (.tuple (x :: r)) (.int 0) = some x := by
  show atI (x :: r) 0 = _; rw [atI_nn (by decide) (by simp only [List.length_cons]; omega)]; rfl
@[simp] theorem fIx_pr0 (p : Pr) : fIx (prD p) (.int 0) = some (.int p.1) := by unfold prD; rw [fIx_tup0]
@[simp] theorem fIx_tup1 (x y : PyData) (r : List PyData) : fIx (.tuple (x :: y :: r)) (.int 1) = some y := by
  show atI (x :: y :: r) 1 = _; rw [atI_nn (by omega) (by simp only [List.length_cons]; omega)]; rfl
@[simp] theorem fIx_list1 (x y : PyData) (r : List PyData) : fIx (.list (x :: y :: r)) (.int 1) = some y := by
  show atI (x :: y :: r) 1 = _; rw [atI_nn (by omega) (by simp only [List.length_cons]; omega)]; rfl
@[simp] theorem fIx_pr1 (p : Pr) : fIx (prD p) (.int 1) = some (.int p.2) := by unfold prD; rw [fIx_tup1]
/-! ### slices and sums of tuples -/
@[simp] theorem pSome_bind (a : EF) (ρ : Lv) (st : Sto) : pSome a ρ st = (a ρ st).bind fun w st => match w with | .d (.int i) => .ok (some i) st | _ => .bad := rfl
theorem fSl_to {α : Type} (f : α → PyData) (xs : List α) {i : Int} (h : 0 ≤ i) : fSl none (some i) (.tuple (xs.map f)) = some (.tuple ((xs.take i.toNat).map f)) := by
  show some (PyData.tuple (cutD _ _ _)) = _
  rw [cutD_map, sIx_nn h]
  simp only [HT.sIx, List.drop_zero, Nat.sub_zero]
  rw [List.take_eq_take_iff.mpr (show min (min i.toNat xs.length) xs.length = min i.toNat xs.length by omega)]
theorem fSl_from {α : Type} (f : α → PyData) (xs : List α) {i : Int} (h : 0 ≤ i) : fSl (some i) none (.tuple (xs.map f)) = some (.tuple ((xs.drop i.toNat).map f)) := by
  show some (PyData.tuple (cutD _ _ _)) = _
  rw [cutD_map, sIx_nn h]
  simp only [HT.sIx]
  by_cases hi : i.toNat ≤ xs.length
  · rw [Nat.min_eq_left hi, List.take_of_length_le (by simp)]
  · rw [Nat.min_eq_right (by omega), List.drop_of_length_le (Nat.le_refl _), List.drop_of_length_le (by omega)]; simp
theorem fSl_mid {α : Type} (f : α → PyData) (xs : List α) {i j : Int} (h : 0 ≤ i) (h' : 0 ≤ j) : fSl (some i) (some j) (.tuple (xs.map f)) = some (.tuple (((xs.drop i.toNat).take (j.toNat - i.toNat)).map f)) := by
  show some (PyData.tuple (cutD _ _ _)) = _
  rw [cutD_map, sIx_nn h, sIx_nn h']
  by_cases hi : i.toNat ≤ xs.length
  · rw [Nat.min_eq_left hi]
    congr 3
    rw [List.take_eq_take_iff.mpr]
    simp
    omega
  · rw [Nat.min_eq_right (a := i.toNat) (by omega), List.drop_of_length_le (Nat.le_refl _), List.drop_of_length_le (i := i.toNat) (by omega)]; simp
theorem fAdd_tup {xs ys : List PyData} (h : xs.length + ys.length ≤ 1000000) : fAdd (.tuple xs) (.tuple ys) = some (.tuple (xs ++ ys)) := by
  show (if xs.length + ys.length ≤ sizeLine then some (PyData.tuple (xs ++ ys)) else none) = _
  rw [if_pos (small_le h)]
theorem fAdd_lst {xs ys : List PyData} (h : xs.length + ys.length ≤ 1000000) : fAdd (.list xs) (.list ys) = some (.list (xs ++ ys)) := by
  show (if xs.length + ys.length ≤ sizeLine then some (PyData.list (xs ++ ys)) else none) = _
  rw [if_pos (small_le h)]
theorem lcR_map {α : Type} {g : GF} {T : TF} {e : EF} {ρ : Lv} {st : Sto} (win : α → W) (out : α → PyData) : ∀ (xs : List α) (acc : List PyData),
    (∀ x ∈ xs, ∃ ρ1, g (win x) ρ st = some ρ1 ∧ T ρ1 st = .ok true st ∧ e ρ1 st = .ok (.d (out x)) st) → lcR g T e ρ (xs.map win) (acc.map .d) st = .ok ((acc ++ xs.map out).map .d) st
  | [], acc, _ => by simp [lcR]
  | x :: r, acc, k => by
    obtain ⟨ρ1, e1, e2, e3⟩ := k x List.mem_cons_self
    have ih := lcR_map (g := g) (T := T) (e := e) (ρ := ρ) (st := st) win out r (acc ++ [out x]) fun y hy => k y (List.mem_cons_of_mem _ hy)
    rw [List.map_cons]
    unfold lcR
    rw [e1]
    simp only [e2, e3]
    rw [List.map_append] at ih
    rw [show acc.map W.d ++ [W.d (out x)] = acc.map W.d ++ [out x].map W.d from rfl, ih]
    simp
theorem lc2R_map {α β : Type} {g g1 : GF} {T T1 : TF} {it1 : AF} {own1 : List Nat} {e : EF} {ρ : Lv} {st : Sto} (win : α → W) (inner : α → List β) (win1 : β → W) (out : α → β → PyData) : ∀ (xs : List α) (acc : List PyData),
    (∀ x ∈ xs, ∃ ρ1, g (win x) ρ st = some ρ1 ∧ T ρ1 st = .ok true st ∧ it1 ρ1 st = .ok ((inner x).map win1) st ∧ ∀ y ∈ inner x, ∃ ρ2, g1 (win1 y) (wipeL ρ1 own1) st = some ρ2 ∧ T1 ρ2 st = .ok true st ∧ e ρ2 st = .ok (.d (out x y)) st) →
    acc.length + (xs.flatMap inner).length ≤ 1000000 → lc2R g T it1 own1 g1 T1 e ρ (xs.map win) (acc.map .d) st = .ok ((acc ++ xs.flatMap fun x => (inner x).map (out x)).map .d) st
  | [], acc, _, _ => by simp [lc2R]
  | x :: r, acc, k, hl => by
    obtain ⟨ρ1, e1, e2, e3, e4⟩ := k x List.mem_cons_self
    rw [List.flatMap_cons, List.length_append] at hl
    have h1 := lcR_map (g := g1) (T := T1) (e := e) (ρ := wipeL ρ1 own1) (st := st) win1 (out x) (inner x) acc e4
    have ih := lc2R_map (g := g) (T := T) (it1 := it1) (own1 := own1) (g1 := g1) (T1 := T1) (e := e) (ρ := ρ) (st := st) win inner win1 out r (acc ++ (inner x).map (out x)) (fun y hy => k y (List.mem_cons_of_mem _ hy)) (by rw [List.length_append, List.length_map]; omega)
    rw [List.map_cons]
    unfold lc2R
    rw [e1]
    simp only [e2, e3]
    rw [if_pos (by rw [List.length_map, List.length_map]; exact small_le (by omega)), h1]
    simp only
    rw [ih]
    simp
@[simp] theorem cLc2_app (it : AF) (own : List Nat) (g : GF) (T : TF) (it1 : AF) (own1 : List Nat) (g1 : GF) (T1 : TF) (e : EF) (ρ : Lv) (st : Sto) : cLc2 it own g T it1 own1 g1 T1 e ρ st = (it ρ st).bind fun ws st => packR (lc2R g T it1 own1 g1 T1 e (wipeL ρ own) ws [] st) := rfl
theorem packR_data (xs : List PyData) (st : Sto) : packR (.ok (xs.map .d) st) = .ok (.d (.list xs)) st := by
  show (match packW (xs.map .d) with | some w => R.ok w st | none => .bad) = _
  rw [packW_data]
@[simp] theorem packR_comp {α : Type} (f : α → PyData) (xs : List α) (st : Sto) : packR (.ok (xs.map (W.d ∘ f)) st) = .ok (.d (.list (xs.map f))) st := by
  rw [← List.map_map]; exact packR_data _ st
end Fx

namespace Fx
open PySem PySem.Spec L2
open PyProof.Rows hiding St

/-! ### {k: v} -/
section
variable {prog : Program} {w : World} {K : Type} [DecidableEq K] {knd : HeapKind prog w K} {A : Around} {E : Value → Shared → Prop} {s : Shared}
/-- the display, the keys' own addresses told -/
theorem dict_pairsH {env : Env} {keys : List (Option Expr)} {values : List Expr} {pos : Pos} {pairs : List (Sem Value × Sem Value)} {Q : Value → Shared → Prop} (hu : knd.room A)
    (hshape : (evalEachOpt keys env).zip ((evalEach values env).map fun v => do let x ← v; standAt pos; pure x) = pairs.map fun p => (some p.1, p.2)) (h0 : pairs ≠ []) (hlen : pairs.length ≤ 15)
    (h : wpAny (model prog w) A (evalPairs pairs) (fun vs s₁ => ∃ ps, CarriesH knd s₁.heap vs ps ∧ s₁.heap.DictOfH knd s.heap.objs.size [] ∧
      ∀ h' tk, h'.DictOfH knd s.heap.objs.size (storedAllH [] ps) → Heap.SameBut s.heap.objs.size s₁.heap h' → Q (.ref s.heap.objs.size) { s₁ with heap := h', toks := tk }) E
      { s with heap := s.heap.push { cls := .type "dict", data := .dict #[] } }) :
    wpAny (model prog w) A (eval (.Dict keys values pos) env) Q E s := by
  rw [arm_eval_Dict, hshape, dictDisplay_pairs pairs h0 (by omega)]
  exact wpAny_bind (wpAny_standAt (wpAny_bind (wpAny_subDictH (knd := knd) (Q := fun d s' => wpAny (model prog w) A (pure (Value.ref d)) Q E s') hu hlen
    (wpAny_mono h (fun vs s₁ h₁ => by obtain ⟨ps, hc, hm, hq⟩ := h₁; exact ⟨ps, hc, hm, fun h' tk a b => wpAny_pure (hq h' tk a b)⟩) fun _ _ e => e))))
end
def disp1Q (C : Wd) (p : Addr) (Q : VK) : List (V × V) → Hp → Prop
  | [(x, y)], H2 => H2 p = some (dicO C p [] 0) ∧ ∃ k b, x = .ref b ∧ KeyV C H2 x k ∧ ∀ ep', Q (.ref p) (upd H2 p (dicO C p [(k, b, y)] ep'))
  | _, _ => False
def tDisp1 (C : Wd) (tk tv : TE) : TE := fun σ H Q => ∀ p, H p = none → tk σ (upd H p (dicO C p [] 0)) fun x H1 => tv σ H1 fun y H2 => disp1Q C p Q [(x, y)] H2
section
variable {X : Cx} {Wx : WX} {k v : Expr} {tk tv : TE} {pos : Pos} {Fk Fv : EF}
theorem pe_disp1 (hu : Hu X) (hk : PE X k tk) (hv : PE X v tv) : PE X (.Dict [some k] [v] pos) (tDisp1 (wd X) tk tv) := by
  refine ⟨fun pins s σ H Q I q => ?_⟩
  have hn := I.hok.fresh (Nat.le_refl s.heap.objs.size)
  have I1 := I.laid (a := s.heap.objs.size) (o := dicO (wd X) s.heap.objs.size [] 0) (h' := s.heap.push { cls := .type "dict", data := .dict #[] }) (t' := s.toks) (fun _ _ q => Heap.get?_push_of_some _ q) (Nat.le_refl _)
    (dicO_ok (dic_new (C := wd X) s.heap (by have := I.big; exact beq_eq_false_iff_ne.mpr (Nat.ne_of_gt this))))
  have hr : (nestedKind X.prog X.w).room X.A := by show X.A.units + 8 < cLine; have : X.A.units + 100 < cLine := hu; omega
  refine dict_pairsH (knd := nestedKind X.prog X.w) (pairs := pairTrees [some k] [v] X.env pos) hr (zip_pairTrees _ _ _ _ rfl rfl) (by simp [pairTrees]) (by simp [pairTrees]) (thn ((pps_cons hk hv pps_nil).run pins _ σ _ (disp1Q (wd X) s.heap.objs.size Q) I1 (q _ hn)) fun ws s2 ⟨ps, H2, I2, rel, q2⟩ => ?_)
  match ps, q2 with
  | [(x, y)], ⟨hH, kk, b, e0, hkey, q2⟩ =>
    subst e0
    cases rel with
    | @cons _ z _ _ h t =>
      cases t
      obtain ⟨u1, u2⟩ := z
      obtain ⟨vs, re, dd, hsys⟩ := dic_get (kvs := []) I2 hH .nil List.nodup_nil
      cases re
      obtain ⟨b', e1, e2, hkey'⟩ := KeyV.key I2 hkey h.1
      cases e1
      have e2 : u1 = Value.ref b := e2
      refine ⟨[(kk, b, u2)], ⟨e2, rfl, hkey', trivial⟩, dd, fun h' tk hm' hs' => ?_⟩
      have hm' : h'.DictOfH (nestedKind X.prog X.w) s.heap.objs.size [(kk, b, u2)] := hm'
      obtain ⟨ep', new⟩ : ∃ ep', dicP (wd X) s.heap.objs.size [(kk, b, y)] ep' h' := by
        obtain ⟨o, es, ep, e, hx, hdd, hes, _, _⟩ := hm'
        exact ⟨ep, o, es, _, e, hx, hdd, .cons ⟨rfl, rfl, h.2⟩ .nil, hes, hsys⟩
      refine ⟨.ref s.heap.objs.size, _, I2.write (t' := tk) (x := s.heap.objs.size) (e := s.heap.objs.size) (by rw [hH]; trivial) (.inl rfl) (fun b ob hb e => (hs'.2 b hb).trans e) ?_ (dicO_ok new), rfl, q2 ep'⟩
      obtain ⟨o, _, _, e, _⟩ := hm'
      exact ⟨o, e⟩
def dic1R (h : Bool) (x y : W) (st : Sto) : R W := match x, frz y st with
  | .d x, some (d, st) => (match asKey x with | some k => (if h = true then .ok (.h st.length) (st ++ [⟨true, .dic [(k, d)]⟩]) else .ok (.d (kdata [(k, d)])) st) | none => .bad)
  | _, _ => .bad
def cDic1 (h : Bool) (a b : EF) : EF := fun ρ st => (a ρ st).bind fun x st => (b ρ st).bind fun y st => dic1R h x y st
theorem RepS.newHX {C : Wd} {G H : Hp} {ad : List Addr} {st : Sto} (r : RepS C G ad st H) {p : Addr} {o : HO} {c : MC} (gp : G p = none) (np : p ∉ ad) (ok : MOk C G (upd H p o) p ⟨true, c⟩) : RepS C G (ad ++ [p]) (st ++ [⟨true, c⟩]) (upd H p o) := by
  refine ⟨fun b u e => ?_, by simp [r.len], ?_, fun n m a e1 e2 => ?_⟩
  · rw [upd_ne (ne_of_none e gp)]; exact r.sub b u e
  · rw [List.nodup_append]
    refine ⟨r.nd, by simp, fun a ha b hb => ?_⟩
    simp only [List.mem_singleton] at hb
    subst hb; intro z; subst z; exact np ha
  · by_cases hn : n < ad.length
    · rw [List.getElem?_append_left hn] at e2
      rw [List.getElem?_append_left (by rw [r.len]; exact hn)] at e1
      have q := r.obj n m a e1 e2
      have hne : a ≠ p := fun z => np (by rw [← z]; exact List.mem_of_getElem? e2)
      obtain ⟨lv, c⟩ := m
      cases lv with
      | true =>
        cases c with
        | lst ds =>
          obtain ⟨q0, vs, q1, q2⟩ := q
          exact ⟨q0, vs, by rw [upd_ne hne]; exact q1, q2⟩
        | dic kvs =>
          obtain ⟨q0, xs, ep, q1, q2, q3⟩ := q
          exact ⟨q0, xs, ep, by rw [upd_ne hne]; exact q1, q2, q3⟩
      | false => cases c <;> exact q
    · have hn2 : n = ad.length := by
        have := (List.getElem?_eq_some_iff.mp e2).1
        simp at this; omega
      subst hn2
      have ea : a = p := by simpa using e2.symm
      have em : m = ⟨true, c⟩ := by rw [← r.len] at e1; simpa using e1.symm
      subst ea em
      exact ok
theorem Step.freshH {G G3 H H2 : Hp} {ad ad2 : List Addr} (s : Step G ad H G3 ad2 H2) {p : Addr} {o : HO} (hp : H p = none) : Step G ad H G3 (ad2 ++ [p]) (upd H2 p o) where
  gle := s.gle
  adp := s.adp.trans (List.prefix_append _ _)
  keep := fun b u e n => by rw [upd_ne (ne_of_none e hp)]; exact s.keep b u e n
  new := fun a h => by
    rcases List.mem_append.mp h with q | q
    · exact s.new a q
    · simp only [List.mem_singleton] at q; subst q; exact .inr hp
  gnew := s.gnew
theorem fe_dic1 {b : Bool} (hu : Hu X) (hk : FE X Wx k Fk) (hv : FE X Wx v Fv) : FE X Wx (.Dict [some k] [v] pos) (cDic1 b Fk Fv) := by
  obtain ⟨tk, pk, kk⟩ := hk
  obtain ⟨tv, pv, kv⟩ := hv
  refine ⟨_, pe_disp1 hu pk pv, fun σ H G ad ρ st Q rs rl h p hp => ?_⟩
  have gp := rs.sub.none hp
  have np : p ∉ ad := fun z => by obtain ⟨o, e⟩ := rs.there z; rw [hp] at e; cases e
  have s0 : Step G ad H G ad (upd H p (dicO (wd X) p [] 0)) := Step.fresh .refl hp
  refine kk σ _ G ad ρ st _ (rs.other gp np) rl (Post.bind (h.mono s0) fun w st1 v1 G1 ad1 H1 e1 s1 rs1 rv q => ?_)
  refine kv σ H1 G1 ad1 ρ st1 _ rs1 (rl.step (s0.trans s1)) (Post.bind q fun z st2 u G2 ad2 H2 e2 s2 rs2 ru q2 => ?_)
  have e3 : cDic1 b Fk Fv ρ st = dic1R b w z st2 := by unfold cDic1; rw [e1]; simp only [R.bind_ok]; rw [e2]; rfl
  rw [e3] at h
  obtain ⟨m1, m2, m3⟩ := (s1.trans s2).mine upd_same gp np
  unfold dic1R at h
  split at h
  · rename_i w z x d st3 e4
    obtain ⟨G3, s3, rs3, d3⟩ := frz_ok rs2 ru e4
    split at h
    · rename_i kk' e5
      obtain ⟨k1, k2, k3⟩ := asKey_ok e5
      have hv1 : Dv (wd X) G1 v1 x := by cases rv; assumption
      rw [← k1] at hv1
      obtain ⟨bb, rfl⟩ := key_ref hv1 k2
      have sAll : Step G ad H G3 ad2 H2 := s0.trans (s1.trans (s2.trans s3))
      have g3 : G3 p = none := (s3.mine m1 m2 m3).2.1
      refine ⟨m1, kk', bb, rfl, ⟨hv1.le (s2.gle.trans rs2.sub), k2, k3⟩, fun ep' => ?_⟩
      have lg : Le G3 (upd G3 p (dicO (wd X) p [(kk', bb, u)] ep')) := Le.upd g3
      have dkv : DvKv (wd X) G3 [(kk', bb, u)] [(kk', d)] := .cons (hv1.le (s2.gle.trans s3.gle)) k3 d3 .nil
      cases b with
      | true =>
        exact h _ G3 _ _ (sAll.freshH hp) (rs3.newHX (c := .dic [(kk', d)]) g3 m3 ⟨g3, _, ep', upd_same, dkv, by simp⟩) (.h (by rw [rs3.len]; simp))
      | false =>
        exact h _ _ ad2 _ ((sAll.fresh hp).freshG hp g3) ((rs3.other g3 m3).freezeAt upd_same g3 m3) (.d (.dic (kvs := [(kk', d)]) upd_same (dkv.le lg) (by simp)))
    · exact h.elim
  · exact h.elim
end

/-! ### a dict beside an empty one -/
section
variable {prog : Program} {w : World} {A : Around} {E : Value → Shared → Prop} {s : Shared}
theorem samePairs0 {nm : String} {a b : Addr} {oa ob : Obj} {es es' : Array DictEntry} {ep ep' : Nat} {Q : Bool → Shared → Prop} (ha : (a == sysModules) = false) (hb : (b == sysModules) = false)
    (hoa : s.heap.get? a = some oa) (hda : oa.data = .dict es ep) (hob : s.heap.get? b = some ob) (hdb : ob.data = .dict es' ep') (h0 : es'.size = 0) (h : Q (es.size == es'.size) s) :
    wpAny (model prog w) A (Builtin.Dict.samePairs nm a b) Q E s := by
  unfold Builtin.Dict.samePairs Builtin.Dict.showsAll
  rw [if_neg (show ¬ (a == sysModules) = true by rw [ha]; exact Bool.false_ne_true), if_neg (show ¬ (b == sysModules) = true by rw [hb]; exact Bool.false_ne_true)]
  refine wpAny_bind (wpAny_pure (wpAny_bind (wpAny_pure ?_)))
  refine wpAny_bind (wpAny_dictEntries hoa hda ?_)
  dsimp only
  refine wpAny_bind (wpAny_dictEntries hob hdb ?_)
  by_cases hsz : es.size = es'.size
  case neg =>
    rw [if_pos (by simpa using hsz)]
    have hbf : (es.size == es'.size) = false := by simpa using hsz
    rw [hbf] at h
    exact wpAny_bind (wpAny_rule (wpAny_pure h))
  case pos =>
    have h' : Q true s := by simpa [hsz] using h
    rw [if_neg (by rw [hsz]; simp)]
    refine wpAny_bind (wpAny_dictEpoch hoa hda ?_)
    refine wpAny_bind ?_
    rw [Std.Legacy.Range.forIn_eq_forIn_range']
    simp only [Std.Legacy.Range.size, Nat.sub_zero, Nat.add_sub_cancel, Nat.div_one]
    rw [hsz, h0, List.range'_zero, List.forIn_nil]
    exact wpAny_pure (wpAny_pure h')
theorem isTy_raw {d : Addr} {o : Obj} (ho : s.heap.get? d = some o) (hx : o.ExactDict) : s.TypeIs (.ref d) "dict" := ⟨o, ho, hx.1⟩
theorem dict0_eq {a b : Addr} {oa ob : Obj} {es es' : Array DictEntry} {ep ep' : Nat} {Q : Value → Shared → Prop} (ha : (a == sysModules) = false) (hb : (b == sysModules) = false)
    (hoa : s.heap.get? a = some oa) (xa : oa.ExactDict) (hda : oa.data = .dict es ep) (hob : s.heap.get? b = some ob) (xb : ob.ExactDict) (hdb : ob.data = .dict es' ep') (h0 : es'.size = 0) (hu : A.units < cLine) (h : Q (.bool (es.size == es'.size)) s) :
    wpAny (model prog w) A (compareOp .Eq (.ref a) (.ref b)) Q E s := by
  refine wpAny_richCompare_same_room (op := .Eq) (isTy_raw hoa xa) (isTy_raw hob xb) PySem.F.slot_dict_eq (wpAny_call_entry PySem.F.slot_dict_eq (isTy_raw hoa xa) PySem.F.entry_dict_eq ?_ (PySem.F.args_dict_eq_2 _ _)) hu
  show wpAny _ _ (Builtin.Dict.dictSlotArgs "__eq__" ⟨[.ref a, .ref b], []⟩ >>= _) _ _ s
  refine wpAny_bind ?_
  unfold Builtin.Dict.dictSlotArgs
  refine wpAny_bind (wpAny_notOrdered_dict (isTy_raw hoa xa) ?_)
  show wpAny _ _ (pure (Value.ref a, Value.ref b)) _ _ s
  refine wpAny_pure ?_
  refine wpAny_bind (wpAny_isInstance (T := "dict") (isTy_raw hob xb) PySem.F.sub_dict_dict ?_)
  simp only [Bool.not_true, Bool.false_eq_true, if_false]
  refine wpAny_bind (wpAny_pure (wpAny_bind (wpAny_pure ?_)))
  refine wpAny_bind (samePairs0 ha hb hoa hda hob hdb h0 ?_)
  refine wpAny_pure ⟨_, rfl, ?_, ?_⟩
  · exact fun x => nomatch x
  · simpa using h
theorem dict0_ne {a b : Addr} {oa ob : Obj} {es es' : Array DictEntry} {ep ep' : Nat} {Q : Value → Shared → Prop} (ha : (a == sysModules) = false) (hb : (b == sysModules) = false)
    (hoa : s.heap.get? a = some oa) (xa : oa.ExactDict) (hda : oa.data = .dict es ep) (hob : s.heap.get? b = some ob) (xb : ob.ExactDict) (hdb : ob.data = .dict es' ep') (h0 : es'.size = 0) (hu : A.units < cLine) (h : Q (.bool (!(es.size == es'.size))) s) :
    wpAny (model prog w) A (compareOp .NotEq (.ref a) (.ref b)) Q E s := by
  refine wpAny_richCompare_same_room (op := .NotEq) (isTy_raw hoa xa) (isTy_raw hob xb) PySem.F.slot_dict_ne (wpAny_call_entry PySem.F.slot_dict_ne (isTy_raw hoa xa) PySem.F.entry_dict_ne ?_ (PySem.F.args_dict_ne_2 _ _)) hu
  show wpAny _ _ (Builtin.Dict.dictSlotArgs "__ne__" ⟨[.ref a, .ref b], []⟩ >>= _) _ _ s
  refine wpAny_bind ?_
  unfold Builtin.Dict.dictSlotArgs
  refine wpAny_bind (wpAny_notOrdered_dict (isTy_raw hoa xa) ?_)
  show wpAny _ _ (pure (Value.ref a, Value.ref b)) _ _ s
  refine wpAny_pure ?_
  refine wpAny_bind (wpAny_isInstance (T := "dict") (isTy_raw hob xb) PySem.F.sub_dict_dict ?_)
  simp only [Bool.not_true, Bool.false_eq_true, if_false]
  refine wpAny_bind (wpAny_pure (wpAny_bind (wpAny_pure ?_)))
  refine wpAny_bind (samePairs0 ha hb hoa hda hob hdb h0 ?_)
  refine wpAny_pure ⟨_, rfl, ?_, ?_⟩
  · exact fun x => nomatch x
  · simpa using h
end
def rDic0 (C : Wd) (neg : Bool) : R2 := fun x y H Q => ∃ a b xs ep ep', x = .ref a ∧ y = .ref b ∧ H a = some (dicO C a xs ep) ∧ H b = some (dicO C b [] ep') ∧ Q (.bl (neg != xs.isEmpty)) H
theorem dic_bare {X : Cx} {pins : List (Addr × Obj)} {σ : L2.St} {H : Hp} {s : Shared} (I : L2.Inv X pins σ H s) {d : Addr} {xs : Ents} {ep : Nat} (h : H d = some (dicO (wd X) d xs ep)) :
    ∃ o es, s.heap.get? d = some o ∧ o.ExactDict ∧ o.data = .dict es ep ∧ es.size = xs.length ∧ (d == sysModules) = false ∧ ∃ vs, EntsRel xs vs ∧ es.toList = vs.map (entryOfKey (nestedKind X.prog X.w)) := by
  obtain ⟨⟨o, es, vs, e, hx, hd, re, hes, hs⟩, _⟩ := I.hok d _ h
  exact ⟨o, es, e, hx, hd, by rw [← Array.length_toList, hes, List.length_map, ← re.len], hs, vs, re, hes⟩
theorem isE_size {α : Type} (xs : List α) : (xs.length == 0) = xs.isEmpty := by cases xs <;> rfl
theorem op_eq0 {X : Cx} (hu : Hu X) : OpR X (compareOp .Eq) (rDic0 (wd X) false) := by
  intro pins s σ H x y v u Q I rx ry h
  obtain ⟨a, b, xs, ep, ep', rfl, rfl, ha, hb, q⟩ := h
  cases rx
  cases ry
  obtain ⟨oa, es, e1, x1, d1, z1, m1, _⟩ := dic_bare I ha
  obtain ⟨ob, es', e2, x2, d2, z2, m2, _⟩ := dic_bare I hb
  have z2 : es'.size = 0 := z2
  refine dict0_eq m1 m2 e1 x1 d1 e2 x2 d2 z2 (by have : X.A.units + 100 < cLine := hu; omega) ⟨.bl _, H, I, ?_, q⟩
  rw [z1, z2, isE_size]; cases xs.isEmpty <;> rfl
theorem op_ne0 {X : Cx} (hu : Hu X) : OpR X (compareOp .NotEq) (rDic0 (wd X) true) := by
  intro pins s σ H x y v u Q I rx ry h
  obtain ⟨a, b, xs, ep, ep', rfl, rfl, ha, hb, q⟩ := h
  cases rx
  cases ry
  obtain ⟨oa, es, e1, x1, d1, z1, m1, _⟩ := dic_bare I ha
  obtain ⟨ob, es', e2, x2, d2, z2, m2, _⟩ := dic_bare I hb
  have z2 : es'.size = 0 := z2
  refine dict0_ne m1 m2 e1 x1 d1 e2 x2 d2 z2 (by have : X.A.units + 100 < cLine := hu; omega) ⟨.bl _, H, I, ?_, q⟩
  rw [z1, z2, isE_size]; cases xs.isEmpty <;> rfl
def fDic0 (neg : Bool) : PyData → PyData → Option PyData
  | .dict m, .dict [] => some (.bool (neg != m.isEmpty))
  | _, _ => none
section
variable {X : Cx} {Wx : WX}
theorem o_dic0 {neg : Bool} : Op2 X Wx (g2 (fDic0 neg)) (rDic0 (wd X) neg) := op2_of fun σ H G ad st v w u z x y d Q rs rv ru e1 e2 e h => by
  unfold fDic0 at e
  split at e
  · cases e
    obtain ⟨a, xs, ep, kvs, rfl, rfl, h1, r1, n1⟩ := der_dic rs rv e1
    obtain ⟨b, ys, ep', kvs', rfl, h0, h2, r2, n2⟩ := der_dic rs ru e2
    have : kvs' = [] := by cases kvs' with | nil => rfl | cons _ _ => cases h0
    subst this
    cases r2
    refine ⟨a, b, xs, ep, ep', rfl, rfl, h1, h2, ?_⟩
    have e0 : (kvs.map fun p => (p.1.data, p.2)).isEmpty = xs.isEmpty := by cases r1 <;> rfl
    rw [e0] at h
    exact h.val rs (.bl _)
  · cases e
end

/-! ### list(d), sorted(d) -/
section
variable {prog : Program} {w : World} {A : Around} {E : Value → Shared → Prop} {s : Shared}
theorem keys_all {es : Array DictEntry} {acc : Array Value} (it : ItemsOf (fun i v => ∃ en : DictEntry, es[i]? = some en ∧ v = en.key) acc es.size) : acc.toList = es.toList.map (·.key) := by
  apply List.ext_getElem?
  intro j
  rw [List.getElem?_map]
  cases hj : acc.toList[j]? with
  | none =>
    have h1 := List.getElem?_eq_none_iff.mp hj
    have h2 : acc.toList.length = es.size := by rw [Array.length_toList, it.1]
    rw [List.getElem?_eq_none (by rw [Array.length_toList]; omega)]
    rfl
  | some v =>
    obtain ⟨en, hen, hv⟩ := it.2 j v (by rw [← Array.getElem?_toList]; exact hj)
    rw [Array.getElem?_toList, hen, hv]
    rfl
theorem sorted_pairsD {d : Addr} {o : Obj} {es : Array DictEntry} {ep : Nat} {vs : List Value} {k : Value → Int × Int} {Q : Value → Shared → Prop} (lo : (d == sysModules) = false) (hh : A.handled = none) (hx : o.ExactDict) (hd : o.data = .dict es ep) (ho : s.heap.get? d = some o)
    (hes : es.toList.map (·.key) = vs) (hz : vs.length ≤ sizeLine) (hp : ∀ v ∈ vs, Srt.IsPair s.heap v (k v).1 (k v).2)
    (h : ∀ (h1 h2 : Heap) (tk : Nat) (out : List Value), SrtO.Srtd (fun v u => SrtO.lexB (k v) (k u)) out → SrtO.Stb (fun v u => SrtO.lexB (k v) (k u)) out vs → (∀ b o, s.heap.get? b = some o → h1.get? b = some o) → (∀ b o, h1.get? b = some o → h2.get? b = some o) →
      (∃ n, h2.get? h1.objs.size = some (seqObj "list" out.toArray n)) → Q (.ref h1.objs.size) { s with heap := h2, toks := tk }) :
    wpAny (model prog w) A (call (.builtin "sorted") [.ref d]) Q E s := by
  refine Calls.call_function_entry PyProof.Rows.kind_sorted PyProof.Rows.plain_sorted PyProof.Rows.entry_sorted (PyProof.Rows.args_sorted1 _) ?_
  unfold Builtin.«sorted»
  have hsz : es.size = vs.length := by rw [← hes, List.length_map, Array.length_toList]
  refine wpAny_bind (m := checkCount "sorted" 1 1 _) (wpAny_pure ?_)
  refine wpAny_bind (PySem.W.kdu_collect (A := A.in1) (kdl_raw lo hx hd) hh ho (by omega) fun h' tk acc hk hacc => ?_)
  have ea : acc.toList = vs := by rw [keys_all hacc, hes]
  rw [ea]
  refine wpAny_bind (wpAny_newList ?_ hz)
  have hoL : (h'.push (seqObj "list" vs.toArray 0)).get? h'.objs.size = some (seqObj "list" vs.toArray 0) := Heap.get?_push_size _ rfl
  have keep : ∀ b u, s.heap.get? b = some u → b ≠ h'.objs.size ∧ (h'.push (seqObj "list" vs.toArray 0)).get? b = some u := fun b u q => ⟨Nat.ne_of_lt (Heap.lt_size (hk b u q)), Heap.get?_push_of_some _ (hk b u q)⟩
  show wpAny _ _ _ _ _ { s with heap := h'.push (seqObj "list" vs.toArray 0), toks := tk }
  refine wpAny_bind (wpAny_holding (wpAny_call_entry PyProof.Rows.slot_list_sort ⟨_, hoL, rfl⟩ PyProof.Rows.entry_list_sort
    (SrtO.list_sort_ord (s := { s with heap := h'.push (seqObj "list" vs.toArray 0), toks := tk }) (SrtO.swo_lex k) hoL hz (fun h2 => ?_) fun out hs hb => ⟨_, rfl, ?_⟩)
    (PyProof.Rows.args_list_sort _)))
  · refine SrtO.pairs_sortableO (by omega) (fun v hm => (hp v hm).keeps fun b o e _ => (keep b o e).2) fun o e => ?_
    have e' : some o = some (seqObj "list" vs.toArray 0) := e.symm.trans hoL
    cases e'
    intro c
    exact absurd (Value.type.inj c) (by decide)
  · obtain ⟨e', he'⟩ := PyProof.Rows.sortedHeap_at (vs := vs) (out := out.toArray) hoL
    refine wpAny_pure ⟨_, rfl, h h' _ tk out hs hb hk (fun b u e => ?_) ⟨e', he'⟩⟩
    have hb : b < h'.objs.size := Heap.lt_size e
    rw [PyProof.Rows.sortedHeap_old (Nat.ne_of_lt hb) (by rw [size_push']; exact Nat.lt_succ_of_lt hb)]
    exact Heap.get?_push_of_some _ e
end
def rListDic (C : Wd) : List V → Hp → VK → Prop := fun vs H Q => ∃ d xs ep, vs = [V.ref d] ∧ H d = some (dicO C d xs ep) ∧ xs.length ≤ sizeLine ∧ ∀ p, H p = none → Q (.ref p) (upd H p (.lst (xs.map fun x => V.ref x.2.1)))
def rSortDic (C : Wd) : List V → Hp → VK → Prop := fun vs H Q => ∃ d xs ep zs, vs = [V.ref d] ∧ H d = some (dicO C d xs ep) ∧ xs.length ≤ sizeLine ∧ (xs.map fun x => V.ref x.2.1) = (zs.map fun z => V.ref z.1) ∧ (∀ z ∈ zs, SqT C.K H z.1 (prV z.2)) ∧
  ∀ (ys : List (Addr × Pr)) (p : Addr), ys.Perm zs → (ys.map (·.2)).Pairwise (fun a b => SrtO.lexB b a = false) → H p = none → Q (.ref p) (upd H p (.lst (ys.map fun z => V.ref z.1)))
theorem ents_keys {P : Program} {w : World} : ∀ {xs : Ents} {vs : List (NestedKey × Addr × Value)}, EntsRel xs vs → (vs.map (entryOfKey (nestedKind P w))).map (·.key) = xs.map fun x => Value.ref x.2.1
  | _, _, .nil => rfl
  | _, _, .cons h r => by
    rw [List.map_cons, List.map_cons, List.map_cons, ents_keys r, h.2.1]; rfl
theorem vals_ents : ∀ xs : Ents, Vals (xs.map fun x => V.ref x.2.1) (xs.map fun x => Value.ref x.2.1)
  | [] => .nil
  | _ :: r => .cons rfl (vals_ents r)
section
variable {X : Cx}
theorem cr_listDic (hc : X.calm = true) : CallR X (.type "list") (rListDic (wd X)) := by
  intro pins s σ H vs us Q I r h
  obtain ⟨d, xs, ep, rfl, hd, hz, q⟩ := h
  rw [Vals.ref1 r]
  obtain ⟨o, es, e1, x1, d1, z1, m1, ks, re, hes⟩ := dic_bare I hd
  refine PySem.W.kdl_call (kdl_raw m1 x1 d1) (I.ok.hd hc) e1 (by omega) fun h' tk acc' c' kp e it => ?_
  have ea : acc'.toList = xs.map fun x => Value.ref x.2.1 := by rw [keys_all it, hes, ents_keys re]
  refine ⟨.ref s.heap.objs.size, _, I.laid (t' := tk) (o := .lst (xs.map fun x => V.ref x.2.1)) kp (Nat.le_refl _) ?_, rfl, q _ (I.hok.fresh (Nat.le_refl _))⟩
  exact ⟨by rw [List.length_map]; exact hz, acc'.toList, c', by rw [ea]; exact vals_ents xs, by rw [Array.toArray_toList]; exact e⟩
theorem cr_sortDic (hc : X.calm = true) : CallR X (.builtin "sorted") (rSortDic (wd X)) := by
  intro pins s σ H vs us Q I r h
  obtain ⟨d, xs, ep, zs, rfl, hd, hz, ez, ht, q⟩ := h
  rw [Vals.ref1 r]
  obtain ⟨o, es, e1, x1, d1, z1, m1, ks, re, hes⟩ := dic_bare I hd
  have ei : es.toList.map (·.key) = zs.map fun z => Value.ref z.1 := by
    rw [hes, ents_keys re]
    have v1 := vals_ents xs
    rw [ez] at v1
    exact vals_addrs v1
  have uq : ∀ z ∈ zs, ∀ y ∈ zs, z.1 = y.1 → z.2 = y.2 := fun z h1 y h2 e => by
    have s1 := ht z h1
    rw [e] at s1
    have := I.tuple_inj s1 (ht y h2)
    simp only [prV, List.cons.injEq, V.int.injEq, and_true] at this
    exact Prod.ext this.1 this.2
  have hl : zs.length = xs.length := by have := congrArg List.length ez; simpa using this.symm
  refine sorted_pairsD (k := keyAt zs) m1 (I.ok.hd hc) x1 d1 e1 ei (by rw [List.length_map, hl]; exact hz) (fun v hv => ?_) fun h1 h2 tk out sorted stable kp1 kp2 place => ?_
  · obtain ⟨z, hz', rfl⟩ := List.mem_map.mp hv
    rw [keyAt_eq uq hz']
    obtain ⟨its2, r2, ⟨o, ho, hc, n, hd⟩, _⟩ := I.tuple (ht z hz')
    cases r2 with | cons c1 r2 => cases r2 with | cons c2 r2 =>
      cases r2
      obtain ⟨t1, rfl⟩ := c1
      obtain ⟨t2, rfl⟩ := c2
      exact ⟨z.1, o, t1, t2, n, rfl, ho, hc, hd⟩
  · obtain ⟨ys, py, ey⟩ := perm_lift stable.perm rfl
    obtain ⟨n, place⟩ := place
    have I1 : L2.Inv X pins σ H { s with heap := h1, toks := tk } := I.kept kp1
    have hn : H h1.objs.size = none := I1.hok.fresh (Nat.le_refl _)
    have hly : (ys.map fun z => V.ref z.1).length ≤ sizeLine := by rw [List.length_map, py.length_eq, hl]; exact hz
    refine ⟨.ref h1.objs.size, upd H h1.objs.size (.lst (ys.map fun z => V.ref z.1)), I1.laid (t' := tk) kp2 (Nat.le_refl _) ⟨hly, out, n, ?_, place⟩, rfl, q ys _ py ?_ hn⟩
    · rw [ey]; exact vals_addrs' ys
    · rw [ey] at sorted
      rw [List.pairwise_map]
      refine (List.pairwise_map.mp sorted).imp_of_mem fun {x y} hx hy w => ?_
      have w : SrtO.lexB (keyAt zs (.ref y.1)) (keyAt zs (.ref x.1)) = false := w
      rw [keyAt_eq uq (py.mem_iff.mp hx), keyAt_eq uq (py.mem_iff.mp hy)] at w
      exact w
end
/-- list(x) of a list, a tuple or a dict with keys that are tuples -/
def fList2 : PyData → Option PyData
  | .dict m => (unKv m).bind fun kvs => if kvs.all (fun p => isT p.1) = true ∧ kvs.length ≤ 1000000 then some (.list (m.map (·.1))) else none
  | x => fList x
/-- sorted(x) of a list or a dict with keys that are pairs -/
def fSorted2 : PyData → Option PyData
  | .dict m => if m.length ≤ 1000000 then (prs (m.map (·.1))).map fun ps => .list ((ssort SrtO.lexB ps).map prD) else none
  | x => fSorted x
theorem dvKv_keys {C : Wd} {G : Hp} : ∀ {xs : Ents} {kvs : Kvs}, DvKv C G xs kvs → DvAll C G (xs.map fun x => V.ref x.2.1) ((kvs.map fun p => (p.1.data, p.2)).map (·.1))
  | _, _, .nil => .nil
  | _, _, .cons h _ _ r => .cons h (dvKv_keys r)
section
variable {X : Cx} {Wx : WX}
theorem o_list2 : OpA X Wx (gA1 fList2) (fun xs H Q => rListDic (wd X) xs H Q ∨ (∃ p ys, xs = [.ref p] ∧ (SqL X.K H p ys ∨ SqT X.K H p ys) ∧ ∀ l, H l = none → Q (.ref l) (upd H l (.lst ys)))) := by
  intro σ H G ad st vs ws Q rs rv h
  match ws, rv, h with
  | [w], rv, h =>
    have h : Post X Wx G ad H σ (relW X) (g1 fList2 w st) Q := h
    by_cases hd : ∃ m, der st w = some (.dict m)
    · obtain ⟨m, em⟩ := hd
      unfold g1 at h
      rw [em] at h
      simp only [Option.bind_some, fList2] at h
      cases eu : unKv m with
      | none => rw [eu] at h; exact h.elim
      | some kvs =>
        rw [eu] at h
        simp only [Option.bind_some] at h
        split at h
        · rename_i hz
          cases rv with | cons r1 r2 =>
            cases r2
            obtain ⟨a, xs, ep, rfl, h1, rk, _⟩ := der_kvs rs r1 em eu
            obtain ⟨a', xs', ep', kvs', e0, em', h1', rk', _⟩ := der_dic rs r1 em
            cases e0
            subst em'
            rw [unKv_map] at eu
            cases eu
            exact .inl ⟨a, xs, ep, rfl, h1, small_le (by rw [rk.len]; exact hz.2), h.newLst rs (dvKv_keys rk)⟩
        · exact h.elim
    · refine .inr (o_list (Wx := Wx) σ H G ad st vs [w] Q rs rv ?_)
      show Post X Wx G ad H σ (relW X) (g1 fList w st) Q
      have e : g1 fList w st = g1 fList2 w st := by
        unfold g1
        cases ed : der st w with
        | none => rfl
        | some x =>
          simp only [Option.bind_some]
          cases x with
          | dict m => exact absurd ⟨m, ed⟩ hd
          | _ => rfl
      rw [e]; exact h
  | [], _, h => exact h.elim
  | _ :: _ :: _, _, h => exact h.elim
theorem o_sorted2 : OpA X Wx (gA1 fSorted2) (fun xs H Q => rSortDic (wd X) xs H Q ∨ (rSortedI X.K xs H Q ∨ rSortPr X.K xs H Q)) := by
  intro σ H G ad st vs ws Q rs rv h
  match ws, rv, h with
  | [w], rv, h =>
    have h : Post X Wx G ad H σ (relW X) (g1 fSorted2 w st) Q := h
    by_cases hd : ∃ m, der st w = some (.dict m)
    · obtain ⟨m, em⟩ := hd
      unfold g1 at h
      rw [em] at h
      simp only [Option.bind_some, fSorted2] at h
      split at h
      · rename_i hz
        cases ep : prs (m.map (·.1)) with
        | none => rw [ep] at h; exact h.elim
        | some ps =>
          rw [ep] at h
          simp only [Option.map_some, okD_some] at h
          cases rv with | cons r1 r2 =>
            cases r2
            obtain ⟨a, xs, epo, kvs, rfl, em', h1, rk, _⟩ := der_dic rs r1 em
            subst em'
            obtain ⟨zs, ez, rfl, hzs⟩ := prs_rel (dvKv_keys rk) ep
            refine .inl ⟨a, xs, epo, zs, rfl, h1, small_le (by rw [rk.len]; simpa using hz), ez, fun z m => Le.sqT rs.sub (hzs z m), fun ys p' hp hs hn => ?_⟩
            have e3 : ys.map (·.2) = ssort SrtO.lexB (zs.map (·.2)) := srt_uniq lin_pr hs (ssort_sorted lin_pr _) ((hp.map _).trans (ssort_perm _).symm)
            rw [← e3] at h
            exact h.newLst rs (dvAll_prs ys fun z m => hzs z (hp.mem_iff.mp m)) p' hn
      · exact h.elim
    · refine .inr (o_sorted (Wx := Wx) σ H G ad st vs [w] Q rs rv ?_)
      show Post X Wx G ad H σ (relW X) (g1 fSorted w st) Q
      have e : g1 fSorted w st = g1 fSorted2 w st := by
        unfold g1
        cases ed : der st w with
        | none => rfl
        | some x =>
          simp only [Option.bind_some]
          cases x with
          | dict m => exact absurd ⟨m, ed⟩ hd
          | _ => rfl
      rw [e]; exact h
  | [], _, h => exact h.elim
  | _ :: _ :: _, _, h => exact h.elim
end
end Fx

namespace Fx
open PySem PySem.Spec L2
open PyProof.Rows hiding St

/-! ### a def whose one parameter is keyword-only, with a bool as default -/
def DefOkB (P : Program) (w : World) (K : PySem.W.Frag) (mg : Str → Option Value) (base : Heap) (x : Str) (k : Nat) (p : Str) (den : Den) (b : Bool) : Prop :=
  ∃ f fd, FnOk P w K mg base (L2N.CX P w) k f fd [p] (spD ⟨P, w, K⟩ mg 1 den) ∧ mg x = some (.ref f) ∧ PySem.W.keepIn K (.ref f) = true ∧ Binds K fd [p] [.bool b]
def DefAtB (K : PySem.W.Frag) (x : Str) (st : Stmt) (p : Str) (b : Bool) : Prop := ∃ (f D : Addr) (oc : Value) (od an : Option Addr) (osl : Array (Option Value)) (doc pm cdv ct : Value),
  PySem.W.nsIn K mainGlobals x = some (some (.ref f)) ∧ K.lookup f = some ⟨oc, od, .func (PySem.W.fnOf x x (defArgs st) (defBody st) (defScope st) .none (.ref D) doc pm an cdv ct), osl⟩ ∧ PySem.W.codeIn K cdv x = true ∧ PySem.W.keepIn K (.ref f) = true ∧ PySem.W.nsIn K D p = some (some (.bool b))
section
variable {P : Program} {w : World} {K : PySem.W.Frag} {mg : Str → Option Value} {base h : Heap} {x : Str} {st : Stmt} {k : Nat} {p : Str} {den : Den} {b : Bool}
theorem DefAtB.ok (X : K.In h) (G : h.Ns mainGlobals mg) (D : DefAtB K x st p b) (ok : ∀ f fd, FunD K x x (defArgs st) (defBody st) (defScope st) [] [(p, .bl b)] f fd → FnOk P w K mg base (L2N.CX P w) k f fd [p] (spD ⟨P, w, K⟩ mg 1 den))
    (hb : ∀ (D : Addr) (doc pm : Value) (an : Option Addr) (cdv ct : Value) (u : Value), KwChain D [(p, u)] (bindArgs (PySem.W.fnOf x x (defArgs st) (defBody st) (defScope st) .none (.ref D) doc pm an cdv ct) ⟨[], []⟩) [(p, u)]) : DefOkB P w K mg base x k p den b := by
  obtain ⟨f, D, oc, od, an, osl, doc, pm, cdv, ct, h1, h2, h3, h4, h5⟩ := D
  have F : FunD K x x (defArgs st) (defBody st) (defScope st) [] [(p, .bl b)] f (PySem.W.fnOf x x (defArgs st) (defBody st) (defScope st) .none (.ref D) doc pm an cdv ct) :=
    ⟨⟨oc, od, _, _, doc, pm, an, cdv, ct, osl, rfl, h2, h3, .inl ⟨rfl, rfl⟩, .inr ⟨D, rfl, fun q hq => by
      obtain rfl : q = (p, .bl b) := by simpa using hq
      exact ⟨.bool b, h5, rfl⟩⟩⟩, h4⟩
  obtain ⟨ds, r, hbd⟩ := F.binds0 (ps := [p]) 0 (by simp) rfl fun D doc pm an cdv ct us ks h1 h2 => match us, ks, h1, h2 with | [], [u], _, _ => hb D doc pm an cdv ct u
  cases r with
  | cons r0 rt =>
    cases rt
    cases r0
    exact ⟨f, _, ok _ _ F, PySem.W.mg_of X G h1, h4, hbd⟩
end
theorem DefAtB.mk {K : PySem.W.Frag} {x : Str} {st : Stmt} {p : Str} {b : Bool} {f D : Addr} {oc : Value} {od an : Option Addr} {osl : Array (Option Value)} {doc pm cdv ct : Value}
    (h1 : PySem.W.nsIn K mainGlobals x = some (some (.ref f))) (h2 : K.lookup f = some ⟨oc, od, .func (PySem.W.fnOf x x (defArgs st) (defBody st) (defScope st) .none (.ref D) doc pm an cdv ct), osl⟩) (h3 : PySem.W.codeIn K cdv x = true) (h4 : PySem.W.keepIn K (.ref f) = true) (h5 : PySem.W.nsIn K D p = some (some (.bool b))) : DefAtB K x st p b :=
  ⟨f, D, oc, od, an, osl, doc, pm, cdv, ct, h1, h2, h3, h4, h5⟩
section
variable {X : Cx} {Wx : WX} {x : Str} {p pos : Pos} {k : Nat} {q : Str} {den : Den} {b : Bool}
theorem fe_callB0 (D : DefOkB X.prog X.w X.K X.mg X.base x k q den b) (tk : L2N.Takes X Wx) (hr : Room k X.A) (hg : Gl X x) (hdb : (x == ("__debug__" : Str)) = false := by decide) : FE X Wx (.Call (.Name x p) [] [] pos) (fun _ st => den [.d (.bool b)] st) := by
  obtain ⟨f, fd, Fn, hm, hk, hb⟩ := D
  refine ⟨fun σ H Q => spD (wd X) X.mg 1 den [.bl b] H Q (WE Wx σ), ⟨fun pins s σ H Q I h => wpAny_Call_Name_kw (ld_glob I hg hm (PySem.W.callWith_K0 I.kIn hk (run_fnSD (us := []) (vs := []) (dvs := [.bl b]) Fn hr hb (.cons rfl .nil) (L2N.passAt tk σ) I .nil h)) hdb)⟩, fun σ H G ad ρ st Q rs rl h => ?_⟩
  refine ⟨rfl, G, ad, st, [.d (.bool b)], rs, .cons (.d (.bl b)) .nil, ?_⟩
  have h : Post X Wx G ad H σ (relW X) (den [.d (.bool b)] st) Q := h
  generalize den [.d (.bool b)] st = r at h
  cases r <;> exact h
end

/-! ### dicts with pairs as keys, typed -/
def prK (p : Pr) : NestedKey := .tup [.num p.1, .num p.2]
@[simp] theorem prK_data (p : Pr) : (prK p).data = prD p := rfl
theorem prK_inj {p q : Pr} (h : prK p = prK q) : p = q := by
  obtain ⟨a, b⟩ := p
  obtain ⟨c, d⟩ := q
  simp only [prK, NestedKey.tup.injEq, List.cons.injEq, NestedKey.num.injEq, and_true] at h
  rw [h.1, h.2]
@[simp] theorem asKey_pr (p : Pr) : asKey (prD p) = some (prK p) := by
  unfold asKey
  have e : toKey (prD p) = some (prK p) := rfl
  rw [e]
  simp only [Option.bind_some]
  rw [if_pos ⟨rfl, by obtain ⟨a, b⟩ := p; exact Nat.le_of_ble_eq_true rfl⟩]
section
variable {α κ : Type} [DecidableEq κ]
/-- a dict as a list of pairs: what it says, what is put in -/
def aget (m : List (κ × α)) (k : κ) : Option α := match m with
  | [] => none
  | (a, v) :: r => if a = k then some v else aget r k
def aput (m : List (κ × α)) (k : κ) (v : α) : List (κ × α) := if k ∈ m.map (·.1) then m.map (fun q => if q.1 = k then (k, v) else q) else m ++ [(k, v)]
theorem aget_mem : ∀ {m : List (κ × α)} {k : κ}, (aget m k).isSome = true ↔ k ∈ m.map (·.1)
  | [], k => by simp [aget]
  | (a, v) :: r, k => by
    unfold aget
    by_cases h : a = k
    · simp [h]
    · rw [if_neg h, aget_mem (m := r)]
      constructor
      · exact fun q => List.mem_cons_of_mem _ q
      · intro q
        rcases List.mem_cons.mp q with q | q
        · exact absurd q.symm h
        · exact q
theorem aget_none {m : List (κ × α)} {k : κ} : aget m k = none ↔ k ∉ m.map (·.1) := by
  rw [← aget_mem]; cases aget m k <;> simp
theorem aget_some {m : List (κ × α)} {k : κ} {v : α} (h : aget m k = some v) : (k, v) ∈ m := by
  induction m with
  | nil => cases h
  | cons p r ih =>
    obtain ⟨a, u⟩ := p
    unfold aget at h
    by_cases e : a = k
    · rw [if_pos e] at h; cases h; rw [e]; exact List.mem_cons_self
    · rw [if_neg e] at h; exact List.mem_cons_of_mem _ (ih h)
theorem aget_of {m : List (κ × α)} (nd : (m.map (·.1)).Nodup) {k : κ} {v : α} (h : (k, v) ∈ m) : aget m k = some v := by
  induction m with
  | nil => cases h
  | cons p r ih =>
    obtain ⟨a, u⟩ := p
    rw [List.map_cons, List.nodup_cons] at nd
    unfold aget
    rcases List.mem_cons.mp h with e | e
    · cases e; rw [if_pos rfl]
    · rw [if_neg (fun z => nd.1 (by rw [z]; exact List.mem_map.mpr ⟨_, e, rfl⟩)), ih nd.2 e]
theorem aput_keys (m : List (κ × α)) (k : κ) (v : α) : (aput m k v).map (·.1) = if k ∈ m.map (·.1) then m.map (·.1) else m.map (·.1) ++ [k] := by
  unfold aput
  by_cases h : k ∈ m.map (·.1)
  · rw [if_pos h, if_pos h, List.map_map]
    refine List.map_congr_left fun q _ => ?_
    show (if q.1 = k then (k, v) else q).1 = q.1
    by_cases e : q.1 = k
    · rw [if_pos e, e]
    · rw [if_neg e]
  · rw [if_neg h, if_neg h, List.map_append]; rfl
theorem mem_aput {m : List (κ × α)} {k j : κ} {v : α} : j ∈ (aput m k v).map (·.1) ↔ j ∈ m.map (·.1) ∨ j = k := by
  rw [aput_keys]
  split
  · rename_i h
    exact ⟨.inl, fun q => q.elim id fun e => e ▸ h⟩
  · simp
theorem aput_nodup {m : List (κ × α)} {k : κ} {v : α} (h : (m.map (·.1)).Nodup) : ((aput m k v).map (·.1)).Nodup := by
  rw [aput_keys]
  split
  · exact h
  · rename_i hn
    rw [List.nodup_append]
    exact ⟨h, by simp, fun a ha b hb => by simp only [List.mem_singleton] at hb; subst hb; exact fun z => hn (z ▸ ha)⟩
theorem aput_len (m : List (κ × α)) (k : κ) (v : α) : (aput m k v).length ≤ m.length + 1 := by
  unfold aput; split <;> simp
theorem aput_new {m : List (κ × α)} {k : κ} (v : α) (h : k ∉ m.map (·.1)) : aput m k v = m ++ [(k, v)] := by unfold aput; rw [if_neg h]
theorem aget_aput (m : List (κ × α)) (k j : κ) (v : α) : aget (aput m k v) j = if k = j then some v else aget m j := by
  have go : ∀ m : List (κ × α), aget (m.map fun q => if q.1 = k then (k, v) else q) j = if k = j then (if k ∈ m.map (·.1) then some v else none) else aget m j := by
    intro m
    induction m with
    | nil => by_cases e : k = j <;> simp [aget, e]
    | cons q r ih =>
      obtain ⟨a, u⟩ := q
      rw [List.map_cons]
      by_cases ea : a = k
      · subst ea
        simp only [if_true]
        unfold aget
        by_cases e : a = j
        · simp [e]
        · simp only [e, if_false]; rw [ih]; simp [e]
      · simp only [ea, if_false]
        unfold aget
        rw [ih]
        by_cases e : k = j
        · subst e
          simp only [ea, if_false, if_true, List.map_cons, List.mem_cons]
          by_cases hk : k ∈ r.map (·.1)
          · simp [hk]
          · rw [if_neg hk, if_neg (fun z => z.elim (fun z => ea z.symm) hk)]
        · simp only [e, if_false]
  have ap : ∀ m : List (κ × α), aget (m ++ [(k, v)]) j = match aget m j with | some u => some u | none => if k = j then some v else none := by
    intro m
    induction m with
    | nil => rfl
    | cons q r ih =>
      obtain ⟨a, u⟩ := q
      rw [List.cons_append]
      unfold aget
      by_cases e : a = j
      · simp [e]
      · simp only [e, if_false]; exact ih
  unfold aput
  by_cases h : k ∈ m.map (·.1)
  · rw [if_pos h, go, if_pos h]
  · rw [if_neg h, ap]
    by_cases e : k = j
    · subst e; rw [aget_none.mpr h]
    · simp only [e, if_false]; cases aget m j <;> rfl
end
/-- a typed dict as data: keys by an injective kf, values by f -/
structure KeyRep {κ : Type} (kd : κ → PyData) (kf : κ → NestedKey) : Prop where
  data : ∀ k, (kf k).data = kd k
  inj : ∀ {k j}, kf k = kf j → k = j
  key : ∀ k, asKey (kd k) = some (kf k)
theorem keyRep_pr : KeyRep prD prK := ⟨prK_data, prK_inj, asKey_pr⟩
section
variable {α κ : Type} [DecidableEq κ] {kd : κ → PyData} {kf : κ → NestedKey}
def dK (kf : κ → NestedKey) (f : α → PyData) (m : List (κ × α)) : Kvs := m.map fun q => (kf q.1, f q.2)
def dD (kd : κ → PyData) (f : α → PyData) (m : List (κ × α)) : PyData := .dict (m.map fun q => (kd q.1, f q.2))
theorem kdata_dK (R : KeyRep kd kf) (f : α → PyData) (m : List (κ × α)) : kdata (dK kf f m) = dD kd f m := by
  unfold dK dD kdata
  rw [List.map_map]
  exact congrArg _ (List.map_congr_left fun q _ => by show ((kf q.1).data, f q.2) = _; rw [R.data])
theorem unKv_dK (R : KeyRep kd kf) (f : α → PyData) (m : List (κ × α)) : unKv (m.map fun q => (kd q.1, f q.2)) = some (dK kf f m) := by
  have := unKv_map (dK kf f m)
  have e := kdata_dK R f m
  unfold kdata dD at e
  rw [PyData.dict.inj e] at this
  exact this
theorem kget_dK (R : KeyRep kd kf) (f : α → PyData) (k : κ) : ∀ m : List (κ × α), kget (dK kf f m) (kf k) = (aget m k).map f
  | [] => rfl
  | (a, v) :: r => by
    unfold dK
    rw [List.map_cons]
    unfold kget aget
    by_cases e : a = k
    · simp [e]
    · rw [if_neg e, if_neg (fun z => e (R.inj z))]; exact kget_dK R f k r
theorem khas_dK (R : KeyRep kd kf) (f : α → PyData) (k : κ) (m : List (κ × α)) : khas (dK kf f m) (kf k) = decide (k ∈ m.map (·.1)) := by
  unfold khas
  rw [kget_dK R, Option.isSome_map]
  by_cases h : k ∈ m.map (·.1)
  · rw [aget_mem.mpr h]; simp only [h, decide_true]
  · rw [aget_none.mpr h]; simp only [h, decide_false]; rfl
theorem kput_dK (R : KeyRep kd kf) (f : α → PyData) (k : κ) (v : α) (m : List (κ × α)) : kput (dK kf f m) (kf k) (f v) = dK kf f (aput m k v) := by
  unfold kput aput
  rw [khas_dK R]
  by_cases h : k ∈ m.map (·.1)
  · rw [if_pos (by simpa using h), if_pos h]
    unfold dK
    rw [List.map_map, List.map_map]
    refine List.map_congr_left fun q _ => ?_
    show (if kf q.1 = kf k then (kf k, f v) else (kf q.1, f q.2)) = (kf (if q.1 = k then (k, v) else q).1, f (if q.1 = k then (k, v) else q).2)
    by_cases e : q.1 = k
    · rw [if_pos e, if_pos (by rw [e])]
    · rw [if_neg e, if_neg (fun z => e (R.inj z))]
  · rw [if_neg (by simpa using h), if_neg h]
    unfold dK; simp
theorem fIx_dic (R : KeyRep kd kf) (f : α → PyData) (m : List (κ × α)) (k : κ) : fIx (dD kd f m) (kd k) = (aget m k).map f := by
  show (unKv _).bind (fun kvs => (asKey (kd k)).bind fun k => kget kvs k) = _
  rw [unKv_dK R, R.key]
  simp only [Option.bind_some]
  exact kget_dK R f k m
theorem fIn_dic (R : KeyRep kd kf) (f : α → PyData) (neg : Bool) (m : List (κ × α)) (k : κ) : fIn' neg (kd k) (dD kd f m) = some (.bool (neg != decide (k ∈ m.map (·.1)))) := by
  show (unKv _).bind (fun kvs => (asKey (kd k)).bind fun k => some (PyData.bool (neg != khas kvs k))) = _
  rw [unKv_dK R, R.key]
  simp only [Option.bind_some]
  rw [khas_dK R]
theorem gGet_dic (R : KeyRep kd kf) (f : α → PyData) {m : List (κ × α)} {w : W} {st : Sto} (h : der st w = some (dD kd f m)) (k : κ) (z : PyData) : gGet w [.d (kd k), .d z] st = .ok (.d (((aget m k).map f).getD z)) st := by
  unfold gGet
  rw [h]
  simp only [dD, der_d, Option.bind_some]
  rw [unKv_dK R, R.key]
  simp only [Option.bind_some, Option.map_some, okD_some, kget_dK R]
theorem isDic_of {f : α → PyData} {m : List (κ × α)} {w : W} {st : Sto} (h : der st w = some (dD kd f m)) : isDic st w = true := by
  unfold isDic; rw [h]; rfl
theorem gPut_dic (R : KeyRep kd kf) (f : α → PyData) {m : List (κ × α)} {n : Nat} {st : Sto} (h : st[n]? = some ⟨true, .dic (dK kf f m)⟩) (hz : m.length ≤ 1000000) (k : κ) (v : α) : gPut (.h n) (.d (kd k)) (.d (f v)) st = some (st.set n ⟨true, .dic (dK kf f (aput m k v))⟩) := by
  have e1 : liveL st (.h n) = none := by unfold liveL; simp only [h]
  have e2 : liveD st (.h n) = some (n, dK kf f m) := by unfold liveD; simp only [h]
  show put1 (.h n) (.d (kd k)) (f v) st = _
  unfold put1
  rw [e1, e2]
  simp only [R.key, Option.bind_some]
  rw [if_pos (small_le (by unfold dK; rw [List.length_map]; exact hz)), kput_dK R]
theorem der_dic_at (R : KeyRep kd kf) (f : α → PyData) {m : List (κ × α)} {n : Nat} {st : Sto} {b : Bool} (h : st[n]? = some ⟨b, .dic (dK kf f m)⟩) : der st (.h n) = some (dD kd f m) := by
  rw [der_h, h, ← kdata_dK R]; rfl
end
end Fx

namespace Fx
open PySem PySem.Spec L2
open PyProof.Rows hiding St

/-! ### ways in a graph -/
section
variable {α : Type} {nb : α → List α}
/-- n steps lead from s to g -/
def Rch (nb : α → List α) : Nat → α → α → Prop
  | 0, s, g => s = g
  | n + 1, s, g => ∃ m, Rch nb n s m ∧ g ∈ nb m
/-- the fewest steps from s to g are n -/
def Dst (nb : α → List α) (s g : α) (n : Nat) : Prop := Rch nb n s g ∧ ∀ m, m < n → ¬ Rch nb m s g
theorem Rch.trans {a b : Nat} {s m g : α} (h : Rch nb a s m) : Rch nb b m g → Rch nb (a + b) s g := by
  induction b generalizing g with
  | zero => intro q; cases q; exact h
  | succ b ih => rintro ⟨k, h1, h2⟩; exact ⟨k, ih h1, h2⟩
theorem Rch.one {s g : α} (h : g ∈ nb s) : Rch nb 1 s g := ⟨s, rfl, h⟩
theorem Dst.uniq {s g : α} {n m : Nat} (h : Dst nb s g n) (k : Dst nb s g m) : n = m := by
  rcases Nat.lt_trichotomy n m with q | q | q
  · exact absurd h.1 (k.2 n q)
  · exact q
  · exact absurd k.1 (h.2 m q)
open Classical in
theorem Rch.dst {s g : α} {n : Nat} (h : Rch nb n s g) : ∃ m, m ≤ n ∧ Dst nb s g m := by
  induction n using Nat.strongRecOn with
  | ind n ih =>
    by_cases q : ∃ m, m < n ∧ Rch nb m s g
    · obtain ⟨m, hm, hr⟩ := q
      obtain ⟨j, hj, hd⟩ := ih m hm hr
      exact ⟨j, by omega, hd⟩
    · exact ⟨n, Nat.le_refl n, h, fun m hm hr => q ⟨m, hm, hr⟩⟩
theorem Dst.le {s g : α} {n m : Nat} (h : Dst nb s g n) (k : Rch nb m s g) : n ≤ m := Nat.le_of_not_lt fun q => h.2 m q k
theorem Dst.zero (s : α) : Dst nb s s 0 := ⟨rfl, fun m hm => absurd hm (Nat.not_lt_zero m)⟩
theorem Dst.zero_iff {s g : α} : Dst nb s g 0 ↔ s = g := ⟨fun h => h.1, fun h => h ▸ Dst.zero s⟩
theorem Dst.pred {s g : α} {n : Nat} (h : Dst nb s g (n + 1)) : ∃ m, Dst nb s m n ∧ g ∈ nb m := by
  obtain ⟨⟨m, h1, h2⟩, h3⟩ := h
  exact ⟨m, ⟨h1, fun j hj q => h3 (j + 1) (by omega) ⟨m, q, h2⟩⟩, h2⟩
theorem Dst.tri {s m g : α} {a b c : Nat} (h : Dst nb s m a) (k : Dst nb m g b) (l : Dst nb s g c) : c ≤ a + b := l.le (h.1.trans k.1)
/-- steps that can be gone back -/
theorem Rch.back (sy : ∀ x y, y ∈ nb x → x ∈ nb y) {n : Nat} {s g : α} (h : Rch nb n s g) : Rch nb n g s := by
  induction n generalizing g with
  | zero => cases h; rfl
  | succ n ih =>
    obtain ⟨m, h1, h2⟩ := h
    have := (Rch.one (sy _ _ h2)).trans (ih h1)
    rwa [Nat.add_comm] at this
theorem Dst.back (sy : ∀ x y, y ∈ nb x → x ∈ nb y) {n : Nat} {s g : α} (h : Dst nb s g n) : Dst nb g s n := ⟨h.1.back sy, fun m hm q => h.2 m hm (q.back sy)⟩
theorem Rch.mono {nb' : α → List α} (le : ∀ x y, y ∈ nb x → y ∈ nb' x) {n : Nat} {s g : α} (h : Rch nb n s g) : Rch nb' n s g := by
  induction n generalizing g with
  | zero => exact h
  | succ n ih => obtain ⟨m, h1, h2⟩ := h; exact ⟨m, ih h1, le _ _ h2⟩

/-! ### level by level -/
def LayOk (nb : α → List α) (s : α) (k : Nat) (layer : List α) : Prop := ∀ g, g ∈ layer ↔ Dst nb s g k
def SeenOk (nb : α → List α) (s : α) (k : Nat) (seen : List α) : Prop := ∀ g, g ∈ seen ↔ ∃ j, j ≤ k ∧ Dst nb s g j
theorem lay_zero (s : α) : LayOk nb s 0 [s] := fun g => by rw [List.mem_singleton, Dst.zero_iff]; exact eq_comm
theorem seen_zero (s : α) : SeenOk nb s 0 [s] := fun g => by
  rw [List.mem_singleton]
  exact ⟨fun h => ⟨0, Nat.le_refl _, Dst.zero_iff.mpr h.symm⟩, fun ⟨j, hj, hd⟩ => by
    obtain rfl : j = 0 := by omega
    exact (Dst.zero_iff.mp hd).symm⟩
theorem lay_next {s : α} {k : Nat} {layer seen nxt : List α} (hl : LayOk nb s k layer) (hs : SeenOk nb s k seen) (hn : ∀ g, g ∈ nxt ↔ g ∉ seen ∧ ∃ m ∈ layer, g ∈ nb m) : LayOk nb s (k + 1) nxt := fun g => by
  rw [hn]
  constructor
  · rintro ⟨h1, m, hm, hg⟩
    refine ⟨⟨m, ((hl m).mp hm).1, hg⟩, fun j hj hr => h1 ?_⟩
    obtain ⟨i, hi, hd⟩ := hr.dst
    exact (hs g).mpr ⟨i, by omega, hd⟩
  · intro hd
    refine ⟨fun h => ?_, ?_⟩
    · obtain ⟨j, hj, hd'⟩ := (hs g).mp h
      have := hd.uniq hd'
      omega
    · obtain ⟨m, hm, hg⟩ := hd.pred
      exact ⟨m, (hl m).mpr hm, hg⟩
theorem seen_next {s : α} {k : Nat} {seen seen' nxt : List α} (hs : SeenOk nb s k seen) (hl : LayOk nb s (k + 1) nxt) (h : ∀ g, g ∈ seen' ↔ g ∈ seen ∨ g ∈ nxt) : SeenOk nb s (k + 1) seen' := fun g => by
  rw [h, hs, hl]
  constructor
  · rintro (⟨j, hj, hd⟩ | hd)
    · exact ⟨j, by omega, hd⟩
    · exact ⟨k + 1, Nat.le_refl _, hd⟩
  · rintro ⟨j, hj, hd⟩
    by_cases e : j = k + 1
    · subst e; exact .inr hd
    · exact .inl ⟨j, by omega, hd⟩
theorem no_dst {s : α} {k : Nat} (hl : LayOk nb s k []) : ∀ (j : Nat) (g : α), ¬ Dst nb s g (k + j)
  | 0, g, h => by have := (hl g).mpr h; cases this
  | j + 1, g, h => by
    obtain ⟨m, hm, _⟩ := Dst.pred (n := k + j) h
    exact no_dst hl j m hm
theorem dst_lt {s g : α} {k n : Nat} (hl : LayOk nb s k []) (h : Dst nb s g n) : n < k := Nat.lt_of_not_le fun q => by
  obtain ⟨j, rfl⟩ := Nat.exists_eq_add_of_le q
  exact no_dst hl j g h
/-- a level that is not empty lies above none that is -/
theorem lay_above {s : α} {k n : Nat} {layer : List α} (hl : LayOk nb s k layer) (hne : layer ≠ []) (hn : LayOk nb s n []) : k < n := by
  obtain ⟨g, hg⟩ := List.exists_mem_of_ne_nil _ hne
  exact dst_lt hn ((hl g).mp hg)

/-! ### the levels with numbers of ways -/
variable [DecidableEq α]
def addW (seen : List α) (w : Int) (acc : List (α × Int)) (o : α) : List (α × Int) := if o ∈ seen then acc else aput acc o ((aget acc o).getD 0 + w)
def nextL (nb : α → List α) (seen : List α) (layer : List (α × Int)) : List (α × Int) := layer.foldl (fun acc p => (nb p.1).foldl (addW seen p.2) acc) []
theorem addW_mem {seen : List α} {w : Int} {g : α} : ∀ (os : List α) {acc : List (α × Int)}, g ∈ (os.foldl (addW seen w) acc).map (·.1) ↔ g ∈ acc.map (·.1) ∨ (g ∉ seen ∧ g ∈ os)
  | [], acc => by simp
  | o :: r, acc => by
    rw [List.foldl_cons, addW_mem r]
    unfold addW
    by_cases h : o ∈ seen
    · rw [if_pos h]
      constructor
      · rintro (q | ⟨q1, q2⟩)
        · exact .inl q
        · exact .inr ⟨q1, List.mem_cons_of_mem _ q2⟩
      · rintro (q | ⟨q1, q2⟩)
        · exact .inl q
        · rcases List.mem_cons.mp q2 with e | e
          · subst e; exact absurd h q1
          · exact .inr ⟨q1, e⟩
    · rw [if_neg h, mem_aput]
      constructor
      · rintro ((q | q) | ⟨q1, q2⟩)
        · exact .inl q
        · subst q; exact .inr ⟨h, List.mem_cons_self⟩
        · exact .inr ⟨q1, List.mem_cons_of_mem _ q2⟩
      · rintro (q | ⟨q1, q2⟩)
        · exact .inl (.inl q)
        · rcases List.mem_cons.mp q2 with e | e
          · exact .inl (.inr e)
          · exact .inr ⟨q1, e⟩
theorem addW_nodup {seen : List α} {w : Int} : ∀ (os : List α) {acc : List (α × Int)}, (acc.map (·.1)).Nodup → ((os.foldl (addW seen w) acc).map (·.1)).Nodup
  | [], acc, h => h
  | o :: r, acc, h => by
    rw [List.foldl_cons]
    refine addW_nodup r ?_
    unfold addW
    split
    · exact h
    · exact aput_nodup h
theorem addW_len {seen : List α} {w : Int} : ∀ (os : List α) {acc : List (α × Int)}, (os.foldl (addW seen w) acc).length ≤ acc.length + os.length
  | [], acc => Nat.le_refl _
  | o :: r, acc => by
    rw [List.foldl_cons]
    refine Nat.le_trans (addW_len r) ?_
    have : (addW seen w acc o).length ≤ acc.length + 1 := by
      unfold addW
      split
      · omega
      · exact aput_len _ _ _
    rw [List.length_cons]; omega
theorem aput_pos {acc : List (α × Int)} {o : α} {w : Int} (h : ∀ p ∈ acc, 1 ≤ p.2) (hw : 1 ≤ w) : ∀ p ∈ aput acc o w, 1 ≤ p.2 := fun p hp => by
  unfold aput at hp
  split at hp
  · obtain ⟨q, hq, rfl⟩ := List.mem_map.mp hp
    split
    · exact hw
    · exact h q hq
  · rcases List.mem_append.mp hp with q | q
    · exact h p q
    · rw [List.mem_singleton] at q; subst q; exact hw
theorem addW_pos {seen : List α} {w : Int} (hw : 1 ≤ w) : ∀ (os : List α) {acc : List (α × Int)}, (∀ p ∈ acc, 1 ≤ p.2) → ∀ p ∈ os.foldl (addW seen w) acc, 1 ≤ p.2
  | [], acc, h => h
  | o :: r, acc, h => by
    rw [List.foldl_cons]
    refine addW_pos hw r ?_
    unfold addW
    split
    · exact h
    · refine aput_pos h ?_
      cases e : aget acc o with
      | none => simp; omega
      | some v => have := h _ (aget_some e); simp at this ⊢; omega
theorem mem_nextL {seen : List α} {layer : List (α × Int)} {g : α} : g ∈ (nextL nb seen layer).map (·.1) ↔ g ∉ seen ∧ ∃ m ∈ layer.map (·.1), g ∈ nb m := by
  have go : ∀ (layer acc : List (α × Int)), g ∈ (layer.foldl (fun acc p => (nb p.1).foldl (addW seen p.2) acc) acc).map (·.1) ↔ g ∈ acc.map (·.1) ∨ (g ∉ seen ∧ ∃ m ∈ layer.map (·.1), g ∈ nb m) := by
    intro layer
    induction layer with
    | nil => intro acc; simp
    | cons p r ih =>
      intro acc
      rw [List.foldl_cons, ih, addW_mem]
      constructor
      · rintro ((q | ⟨q1, q2⟩) | ⟨q1, m, hm, q2⟩)
        · exact .inl q
        · exact .inr ⟨q1, p.1, by simp, q2⟩
        · exact .inr ⟨q1, m, by rw [List.map_cons]; exact List.mem_cons_of_mem _ hm, q2⟩
      · rintro (q | ⟨q1, m, hm, q2⟩)
        · exact .inl (.inl q)
        · rw [List.map_cons] at hm
          rcases List.mem_cons.mp hm with e | e
          · subst e; exact .inl (.inr ⟨q1, q2⟩)
          · exact .inr ⟨q1, m, e, q2⟩
  unfold nextL
  rw [go]
  simp
theorem nextL_nodup {seen : List α} {layer : List (α × Int)} : ((nextL nb seen layer).map (·.1)).Nodup := by
  have go : ∀ (layer acc : List (α × Int)), (acc.map (·.1)).Nodup → ((layer.foldl (fun acc p => (nb p.1).foldl (addW seen p.2) acc) acc).map (·.1)).Nodup := by
    intro layer
    induction layer with
    | nil => intro acc h; exact h
    | cons p r ih => intro acc h; exact ih _ (addW_nodup _ h)
  exact go layer [] (by simp)
theorem nextL_pos {seen : List α} {layer : List (α × Int)} (h : ∀ p ∈ layer, 1 ≤ p.2) : ∀ p ∈ nextL nb seen layer, 1 ≤ p.2 := by
  have go : ∀ (layer acc : List (α × Int)), (∀ p ∈ layer, 1 ≤ p.2) → (∀ p ∈ acc, 1 ≤ p.2) → ∀ p ∈ layer.foldl (fun acc p => (nb p.1).foldl (addW seen p.2) acc) acc, 1 ≤ p.2 := by
    intro layer
    induction layer with
    | nil => intro acc _ h; exact h
    | cons p r ih => intro acc h1 h2; exact ih _ (fun q hq => h1 q (List.mem_cons_of_mem _ hq)) (addW_pos (h1 p List.mem_cons_self) _ h2)
  exact go layer [] h fun p hp => absurd hp List.not_mem_nil
/-- all levels -/
def runL (nb : α → List α) : Nat → List α → List (α × Int) → List (List (α × Int))
  | 0, _, _ => []
  | n + 1, seen, layer => if layer = [] then [] else layer :: runL nb n (seen ++ (nextL nb seen layer).map (·.1)) (nextL nb seen layer)
theorem runL_nil (n : Nat) (seen : List α) : runL nb n seen [] = [] := by cases n <;> rfl
theorem runL_cons {n : Nat} {seen : List α} {layer : List (α × Int)} (h : layer ≠ []) : runL nb (n + 1) seen layer = layer :: runL nb n (seen ++ (nextL nb seen layer).map (·.1)) (nextL nb seen layer) := by
  show (if layer = [] then _ else _) = _
  rw [if_neg h]
theorem nodup_sub {l U : List α} (h : l.Nodup) (s : ∀ x ∈ l, x ∈ U) : l.length ≤ U.length := by
  induction l generalizing U with
  | nil => exact Nat.zero_le _
  | cons x r ih =>
    rw [List.nodup_cons] at h
    have hx := s x List.mem_cons_self
    have := ih (U := U.erase x) h.2 fun y hy => (List.mem_erase_of_ne (fun e : y = x => h.1 (by rw [← e]; exact hy))).mpr (s y (List.mem_cons_of_mem _ hy))
    rw [List.length_erase_of_mem hx] at this
    have : 0 < U.length := List.length_pos_of_mem hx
    rw [List.length_cons]; omega
/-- what a state of the search keeps -/
structure StL (nb : α → List α) (U : List α) (s : α) (k : Nat) (seen : List α) (layer : List (α × Int)) : Prop where
  nd : seen.Nodup
  sub : ∀ x ∈ seen, x ∈ U
  lay : LayOk nb s k (layer.map (·.1))
  sn : SeenOk nb s k seen
  ndl : (layer.map (·.1)).Nodup
  pos : ∀ p ∈ layer, 1 ≤ p.2
theorem StL.start {U : List α} {s : α} (hs : s ∈ U) : StL nb U s 0 [s] [(s, 1)] := ⟨by simp, fun x hx => by rw [List.mem_singleton] at hx; subst hx; exact hs, lay_zero s, seen_zero s, by simp, fun p hp => by rw [List.mem_singleton] at hp; subst hp; exact Int.le_refl 1⟩
theorem StL.next {U : List α} {s : α} {k : Nat} {seen : List α} {layer : List (α × Int)} (h : StL nb U s k seen layer) (cl : ∀ x ∈ U, ∀ y ∈ nb x, y ∈ U) : StL nb U s (k + 1) (seen ++ (nextL nb seen layer).map (·.1)) (nextL nb seen layer) := by
  have l1 := lay_next h.lay h.sn fun g => mem_nextL (nb := nb) (seen := seen) (layer := layer)
  refine ⟨?_, fun x hx => ?_, l1, seen_next h.sn l1 fun g => List.mem_append, nextL_nodup, nextL_pos h.pos⟩
  · rw [List.nodup_append]
    refine ⟨h.nd, nextL_nodup, fun a ha b hb e => ?_⟩
    subst e
    exact (mem_nextL.mp hb).1 ha
  · rcases List.mem_append.mp hx with q | q
    · exact h.sub x q
    · obtain ⟨_, m, hm, hg⟩ := mem_nextL.mp q
      exact cl m (h.sub m ((h.sn m).mpr ⟨k, Nat.le_refl _, (h.lay m).mp hm⟩)) x hg
theorem StL.more {U : List α} {s : α} {k : Nat} {seen : List α} {layer : List (α × Int)} (h : StL nb U s k seen layer) (cl : ∀ x ∈ U, ∀ y ∈ nb x, y ∈ U) : seen.length + (nextL nb seen layer).length ≤ U.length := by
  have := nodup_sub (h.next cl).nd (h.next cl).sub
  rw [List.length_append, List.length_map] at this
  exact this
/-- the levels that runL gives, one by one -/
theorem runL_spec {U : List α} {s : α} (cl : ∀ x ∈ U, ∀ y ∈ nb x, y ∈ U) : ∀ (n k : Nat) (seen : List α) (layer : List (α × Int)), StL nb U s k seen layer → U.length + 2 ≤ seen.length + n →
    (∀ j m, (runL nb n seen layer)[j]? = some m → m ≠ [] ∧ (m.map (·.1)).Nodup ∧ (∀ p ∈ m, 1 ≤ p.2) ∧ LayOk nb s (k + j) (m.map (·.1))) ∧ LayOk nb s (k + (runL nb n seen layer).length) []
  | 0, k, seen, layer, h, hn => by have := nodup_sub h.nd h.sub; omega
  | n + 1, k, seen, layer, h, hn => by
    by_cases e : layer = []
    · subst e
      rw [runL_nil]
      exact ⟨fun j m q => by simp at q, h.lay⟩
    · rw [runL_cons e]
      have nx := h.next cl
      by_cases e2 : nextL nb seen layer = []
      · rw [e2] at nx ⊢
        rw [runL_nil]
        refine ⟨fun j m q => ?_, nx.lay⟩
        match j, q with
        | 0, q => cases q; exact ⟨e, h.ndl, h.pos, h.lay⟩
        | j + 1, q => simp at q
      · have hl : 0 < (nextL nb seen layer).length := List.length_pos_iff.mpr e2
        obtain ⟨i1, i2⟩ := runL_spec cl n (k + 1) _ _ nx (by rw [List.length_append, List.length_map]; omega)
        refine ⟨fun j m q => ?_, ?_⟩
        · match j, q with
          | 0, q => cases q; exact ⟨e, h.ndl, h.pos, h.lay⟩
          | j + 1, q =>
            have := i1 j m (by simpa using q)
            rw [show k + (j + 1) = k + 1 + j by omega]
            exact this
        · rw [List.length_cons, show k + ((runL nb n (seen ++ (nextL nb seen layer).map (·.1)) (nextL nb seen layer)).length + 1) = k + 1 + (runL nb n (seen ++ (nextL nb seen layer).map (·.1)) (nextL nb seen layer)).length by omega]
          exact i2
end

/-! ### loops, once more -/
/-- a loop as a fold over a model, related to the locals and the store -/
theorem forF_foldR {α S : Type} {g : GF} {F : SF} (win : α → W) (I : S → Lv → Sto → Prop) (f : S → α → S) : ∀ (xs : List α) {s : S} {ρ : Lv} {st : Sto}, I s ρ st →
    (∀ x ∈ xs, ∀ s ρ st, I s ρ st → ∃ ρ1 ρ2 st2, g (win x) ρ st = some ρ1 ∧ F ρ1 st = .nx ρ2 st2 ∧ I (f s x) ρ2 st2) → ∃ ρ' st', forF g F (xs.map win) ρ st = .nx ρ' st' ∧ I (xs.foldl f s) ρ' st'
  | [], s, ρ, st, h, _ => ⟨ρ, st, rfl, h⟩
  | x :: r, s, ρ, st, h, k => by
    obtain ⟨ρ1, ρ2, st2, e1, e2, h2⟩ := k x List.mem_cons_self s ρ st h
    obtain ⟨ρ', st', e3, h3⟩ := forF_foldR win I f r h2 fun y hy => k y (List.mem_cons_of_mem _ hy)
    refine ⟨ρ', st', ?_, h3⟩
    rw [List.map_cons, forF_cons, e1]
    simp only [e2]
    exact e3
/-- a while, by a model's steps that make a number smaller -/
theorem whileF_inv {S : Type} {c : TF} {F : SF} (I : S → Lv → Sto → Prop) (Done : S → Lv → Sto → Prop) (μ : S → Nat)
    (step : ∀ s ρ st, I s ρ st → (∃ st1, c ρ st = .ok false st1 ∧ Done s ρ st1) ∨ (∃ s' ρ' st' st1, c ρ st = .ok true st1 ∧ F ρ st1 = .nx ρ' st' ∧ I s' ρ' st' ∧ μ s' < μ s)) :
    ∀ (n : Nat) (s : S) (ρ : Lv) (st : Sto), μ s < n → I s ρ st → ∃ s' ρ' st', whileF c F n ρ st = .nx ρ' st' ∧ Done s' ρ' st'
  | 0, s, ρ, st, h, _ => absurd h (Nat.not_lt_zero _)
  | n + 1, s, ρ, st, h, i => by
    rcases step s ρ st i with ⟨st1, e, d⟩ | ⟨s', ρ', st', st1, e1, e2, i2, hm⟩
    · refine ⟨s, ρ, st1, ?_, d⟩
      unfold whileF
      rw [e]; rfl
    · obtain ⟨s2, ρ2, st2, e3, d⟩ := whileF_inv I Done μ step n s' ρ' st' (by omega) i2
      refine ⟨s2, ρ2, st2, ?_, d⟩
      unfold whileF
      rw [e1]
      show (match F ρ st1 with | .nx ρ2 st2 => whileF c F n ρ2 st2 | .ct ρ2 st2 => whileF c F n ρ2 st2 | .bk ρ2 st2 => .nx ρ2 st2 | r => r) = _
      rw [e2]
      exact e3
/-- the same with a way out of the loop by return -/
theorem sWhile_app (n : Nat) (c : TF) (F : SF) (ρ : Lv) (st : Sto) : sWhile n c F ρ st = whileF c F n ρ st := rfl
end Fx

namespace Fx
open PySem PySem.Spec L2
open PyProof.Rows hiding St

/-! ### the settings of a dial -/
def setsM (L : List Int) : List Pr := (enF 0 L).flatMap fun p => (rg p.2).map fun c => (p.1, c)
theorem enF_of {α : Type} : ∀ (k : Nat) (xs : List α) (j : Nat) (x : α), xs[j]? = some x → (((k + j : Nat) : Int), x) ∈ enF k xs
  | _, [], j, x, h => by simp at h
  | k, y :: r, 0, x, h => by cases h; unfold enF; exact List.mem_cons_self
  | k, y :: r, j + 1, x, h => by
    unfold enF
    have := enF_of (k + 1) r j x (by simpa using h)
    rw [show k + 1 + j = k + (j + 1) by omega] at this
    exact List.mem_cons_of_mem _ this
theorem mem_setsM {L : List Int} {s : Pr} : s ∈ setsM L ↔ OkS L s := by
  unfold setsM
  rw [List.mem_flatMap]
  constructor
  · rintro ⟨p, hp, hs⟩
    obtain ⟨c, hc, rfl⟩ := List.mem_map.mp hs
    obtain ⟨j, e1, e2⟩ := enF_at 0 L p hp
    obtain ⟨c0, c1⟩ := mem_rg.mp hc
    have hj := (List.getElem?_eq_some_iff.mp e2).1
    have eg : gL L p.1 = p.2 := by
      unfold gL
      rw [e1, Nat.zero_add, Int.toNat_natCast, List.getD_eq_getElem?_getD, e2]; rfl
    exact ⟨by show 0 ≤ p.1; omega, by show p.1 < L.length; omega, c0, by show c < gL L p.1; rw [eg]; exact c1⟩
  · intro h
    have r0 := h.r0
    have e := enF_of 0 L s.1.toNat _ (gL_at h.r0 h.r1)
    rw [show ((0 + s.1.toNat : Nat) : Int) = s.1 by omega] at e
    exact ⟨_, e, List.mem_map.mpr ⟨s.2, mem_rg.mpr ⟨h.c0, h.c1⟩, rfl⟩⟩
theorem setsM_len {L : List Int} (h : OkL L) : (setsM L).length ≤ 372 := by
  have go : ∀ (M : List Int) (k : Nat), (∀ x ∈ M, x ≤ 31) → ((enF k M).flatMap fun p => (rg p.2).map fun c => ((p.1, c) : Pr)).length ≤ 31 * M.length := by
    intro M
    induction M with
    | nil => intro k _; simp [enF]
    | cons x r ih =>
      intro k hm
      have a := hm x List.mem_cons_self
      have b := ih (k + 1) fun y hy => hm y (List.mem_cons_of_mem _ hy)
      unfold enF
      rw [List.flatMap_cons, List.length_append, List.length_map, rg_length, List.length_cons]
      simp only
      omega
  have a := go L 0 fun x hx => (h.all x hx).2
  have := h.le
  unfold setsM
  omega
def nbs (L : List Int) (s : Pr) : List Pr := [aft L s .cp, aft L s .cm, aft L s .rp, aft L s .rm]
def allT : List Tn := [.cp, .cm, .rp, .rm]
theorem mem_allT (t : Tn) : t ∈ allT := by cases t <;> simp [allT]
theorem nbs_map (L : List Int) (s : Pr) : nbs L s = allT.map (aft L s) := rfl
theorem mem_nbs {L : List Int} {s g : Pr} : g ∈ nbs L s ↔ ∃ t, aft L s t = g := by
  rw [nbs_map, List.mem_map]
  exact ⟨fun ⟨t, _, e⟩ => ⟨t, e⟩, fun ⟨t, e⟩ => ⟨t, mem_allT t, e⟩⟩
theorem nbs_cl {L : List Int} (h : OkL L) : ∀ x ∈ setsM L, ∀ y ∈ nbs L x, y ∈ setsM L := fun x hx y hy => by
  obtain ⟨t, rfl⟩ := mem_nbs.mp hy
  exact mem_setsM.mpr (aft_ok h (mem_setsM.mp hx) t)
theorem rch_iff {L : List Int} {n : Nat} {s g : Pr} : Rch (nbs L) n s g ↔ ∃ S : List Tn, S.length = n ∧ S.foldl (aft L) s = g := by
  induction n generalizing g with
  | zero =>
    constructor
    · intro h; exact ⟨[], rfl, h⟩
    · rintro ⟨S, h1, h2⟩
      obtain rfl := List.length_eq_zero_iff.mp h1
      exact h2
  | succ n ih =>
    constructor
    · rintro ⟨m, h1, h2⟩
      obtain ⟨S, rfl, rfl⟩ := ih.mp h1
      obtain ⟨t, rfl⟩ := mem_nbs.mp h2
      exact ⟨S ++ [t], by simp, by rw [List.foldl_append]; rfl⟩
    · rintro ⟨S, h1, rfl⟩
      rcases List.eq_nil_or_concat S with rfl | ⟨S', t, rfl⟩
      · simp at h1
      · rw [List.concat_eq_append] at h1 ⊢
        refine ⟨S'.foldl (aft L) s, ih.mpr ⟨S', by simpa using h1, rfl⟩, mem_nbs.mpr ⟨t, ?_⟩⟩
        rw [List.foldl_append]; rfl
theorem col_fold {L : List Int} {r : Int} (h : 1 ≤ gL L r) : ∀ (k : Nat) {c : Int}, 0 ≤ c → c < gL L r → (List.replicate k Tn.cp).foldl (aft L) (r, c) = (r, (c + k) % gL L r)
  | 0, c, h0, h1 => by
    show (r, c) = (r, (c + 0) % gL L r)
    rw [Int.add_zero, Int.emod_eq_of_lt h0 h1]
  | k + 1, c, h0, h1 => by
    rw [List.replicate_succ, List.foldl_cons]
    have e : aft L (r, c) .cp = (r, (c + 1) % gL L r) := rfl
    rw [e, col_fold h k (Int.emod_nonneg _ (by omega)) (Int.emod_lt_of_pos _ (by omega)), Int.emod_add_emod]
    congr 2
    push_cast
    omega
theorem row_fold {L : List Int} (h : OkL L) : ∀ (k : Nat) {s : Pr}, OkS L s → ((List.replicate k Tn.rp).foldl (aft L) s).1 = (s.1 + k) % L.length
  | 0, s, hs => by
    show s.1 = (s.1 + 0) % L.length
    rw [Int.add_zero, Int.emod_eq_of_lt hs.r0 hs.r1]
  | k + 1, s, hs => by
    rw [List.replicate_succ, List.foldl_cons, row_fold h k (aft_ok h hs .rp)]
    have e : (aft L s .rp).1 = (s.1 + 1) % L.length := rfl
    rw [e, Int.emod_add_emod]
    congr 1
    push_cast
    omega
theorem row_foldm {L : List Int} (h : OkL L) : ∀ (k : Nat) {s : Pr}, OkS L s → ((List.replicate k Tn.rm).foldl (aft L) s).1 = (s.1 - k) % L.length
  | 0, s, hs => by
    show s.1 = (s.1 - 0) % L.length
    rw [Int.sub_zero, Int.emod_eq_of_lt hs.r0 hs.r1]
  | k + 1, s, hs => by
    rw [List.replicate_succ, List.foldl_cons, row_foldm h k (aft_ok h hs .rm)]
    have e : (aft L s .rm).1 = (s.1 - 1) % L.length := rfl
    rw [e, Int.emod_sub_emod]
    congr 1
    push_cast
    omega
/-- a column of the row, by turning it -/
theorem col_to {L : List Int} {s : Pr} (hs : OkS L s) {c : Int} (h0 : 0 ≤ c) (h1 : c < gL L s.1) : ∃ k : Nat, (k : Int) < gL L s.1 ∧ (List.replicate k Tn.cp).foldl (aft L) s = (s.1, c) := by
  have hc0 := hs.c0
  have hc1 := hs.c1
  have hk : 0 ≤ (c - s.2) % gL L s.1 := Int.emod_nonneg _ (by omega)
  refine ⟨((c - s.2) % gL L s.1).toNat, by rw [Int.toNat_of_nonneg hk]; exact Int.emod_lt_of_pos _ (by omega), ?_⟩
  have := col_fold (L := L) (r := s.1) (by omega) ((c - s.2) % gL L s.1).toNat hs.c0 hs.c1
  rw [show (s.1, s.2) = s from rfl] at this
  rw [this, Int.toNat_of_nonneg hk]
  rw [Int.add_emod, Int.emod_emod, ← Int.add_emod, show s.2 + (c - s.2) = c by omega, Int.emod_eq_of_lt h0 h1]
/-- every setting can be reached: the rows the shorter way around, then the column -/
theorem reach_le {L : List Int} (h : OkL L) {s g : Pr} (hs : OkS L s) (hg : OkS L g) : ∃ n, Rch (nbs L) n s g ∧ (n : Int) ≤ L.length / 2 + (gL L g.1 - 1) := by
  have hl := h.len
  obtain ⟨S, h1, h2⟩ : ∃ S : List Tn, (S.length : Int) ≤ L.length / 2 ∧ (S.foldl (aft L) s).1 = g.1 := by
    have q0 : 0 ≤ (g.1 - s.1) % (L.length : Int) := Int.emod_nonneg _ (by omega)
    have q1 : (g.1 - s.1) % (L.length : Int) < L.length := Int.emod_lt_of_pos _ hl
    by_cases hh : (g.1 - s.1) % (L.length : Int) ≤ L.length / 2
    · refine ⟨List.replicate ((g.1 - s.1) % (L.length : Int)).toNat .rp, by rw [List.length_replicate]; omega, ?_⟩
      rw [row_fold h _ hs, Int.toNat_of_nonneg q0, Int.add_emod, Int.emod_emod, ← Int.add_emod, show s.1 + (g.1 - s.1) = g.1 by omega, Int.emod_eq_of_lt hg.r0 hg.r1]
    · refine ⟨List.replicate ((L.length : Int) - (g.1 - s.1) % (L.length : Int)).toNat .rm, by rw [List.length_replicate]; omega, ?_⟩
      rw [row_foldm h _ hs, Int.toNat_of_nonneg (by omega)]
      rw [show s.1 - ((L.length : Int) - (g.1 - s.1) % (L.length : Int)) = s.1 + (g.1 - s.1) % (L.length : Int) - L.length by omega]
      rw [show s.1 + (g.1 - s.1) % (L.length : Int) - L.length = s.1 + (g.1 - s.1) % (L.length : Int) + L.length * (-1) by omega, Int.add_mul_emod_self_left]
      rw [Int.add_emod, Int.emod_emod, ← Int.add_emod, show s.1 + (g.1 - s.1) = g.1 by omega, Int.emod_eq_of_lt hg.r0 hg.r1]
  have hm := run_ok h S hs
  obtain ⟨k, hk, e⟩ := col_to hm hg.c0 (by rw [h2]; exact hg.c1)
  rw [h2] at hk e
  refine ⟨S.length + k, rch_iff.mpr ⟨S ++ List.replicate k .cp, by simp, by rw [List.foldl_append, e]⟩, ?_⟩
  push_cast
  omega
open Classical in
/-- the fewest turns -/
noncomputable def dst (L : List Int) (s g : Pr) : Nat := if h : ∃ n, Dst (nbs L) s g n then Classical.choose h else 0
theorem dst_spec {L : List Int} (h : OkL L) {s g : Pr} (hs : OkS L s) (hg : OkS L g) : Dst (nbs L) s g (dst L s g) := by
  obtain ⟨n, hn, _⟩ := reach_le h hs hg
  obtain ⟨m, _, hm⟩ := hn.dst
  have hx : ∃ n, Dst (nbs L) s g n := ⟨m, hm⟩
  unfold dst
  rw [dif_pos hx]
  exact Classical.choose_spec hx
theorem dst_eq {L : List Int} (h : OkL L) {s g : Pr} (hs : OkS L s) (hg : OkS L g) {n : Nat} (d : Dst (nbs L) s g n) : dst L s g = n := (dst_spec h hs hg).uniq d
/-- the levels from a setting -/
def layM (L : List Int) (s : Pr) : List (List (Pr × Int)) := runL (nbs L) 400 [s] [(s, 1)]
theorem layM_spec {L : List Int} (h : OkL L) {s : Pr} (hs : OkS L s) : (∀ (j : Nat) m, (layM L s)[j]? = some m → m ≠ [] ∧ (m.map (·.1)).Nodup ∧ (∀ p ∈ m, 1 ≤ p.2) ∧ LayOk (nbs L) s j (m.map (·.1))) ∧ LayOk (nbs L) s (layM L s).length [] := by
  have := runL_spec (nbs_cl h) 400 0 [s] [(s, 1)] (StL.start (mem_setsM.mpr hs)) (by have := setsM_len h; simp; omega)
  refine ⟨fun j m e => ?_, ?_⟩
  · have q := this.1 j m e
    rw [Nat.zero_add] at q
    exact q
  · have q := this.2
    rw [Nat.zero_add] at q
    exact q
theorem layM_lt {L : List Int} (h : OkL L) {s g : Pr} (hs : OkS L s) (hg : OkS L g) : dst L s g < (layM L s).length := dst_lt (layM_spec h hs).2 (dst_spec h hs hg)
/-- the settings that n turns lead to -/
def front {α : Type} (nb : α → List α) : Nat → α → List α
  | 0, s => [s]
  | n + 1, s => (front nb n s).flatMap nb
theorem mem_front {α : Type} {nb : α → List α} : ∀ {n : Nat} {s g : α}, g ∈ front nb n s ↔ Rch nb n s g
  | 0, s, g => by show g ∈ [s] ↔ s = g; rw [List.mem_singleton]; exact eq_comm
  | n + 1, s, g => by
    show g ∈ (front nb n s).flatMap nb ↔ _
    rw [List.mem_flatMap]
    constructor
    · rintro ⟨m, h1, h2⟩; exact ⟨m, mem_front.mp h1, h2⟩
    · rintro ⟨m, h1, h2⟩; exact ⟨m, mem_front.mpr h1, h2⟩
def dstB {α : Type} [DecidableEq α] (nb : α → List α) (s g : α) (n : Nat) : Bool := decide (g ∈ front nb n s) && (List.range n).all fun m => !decide (g ∈ front nb m s)
theorem dst_of_b {α : Type} [DecidableEq α] {nb : α → List α} {s g : α} {n : Nat} (h : dstB nb s g n = true) : Dst nb s g n := by
  unfold dstB at h
  rw [Bool.and_eq_true, decide_eq_true_eq, List.all_eq_true] at h
  refine ⟨mem_front.mp h.1, fun m hm q => ?_⟩
  have := h.2 m (List.mem_range.mpr hm)
  simp [mem_front.mpr q] at this

/-! ### the search over the store, helpers -/
def seenM {κ : Type} (seen : List κ) : List (κ × Bool) := seen.map fun p => (p, true)
theorem seenM_keys {κ : Type} (seen : List κ) : (seenM seen).map (·.1) = seen := by unfold seenM; rw [List.map_map]; exact List.map_id' _
def addS {κ : Type} [DecidableEq κ] (seen : List κ) (k : κ) : List κ := if k ∈ seen then seen else seen ++ [k]
theorem seenM_put {κ : Type} [DecidableEq κ] (seen : List κ) (k : κ) : aput (seenM seen) k true = seenM (addS seen k) := by
  unfold aput addS
  rw [seenM_keys]
  by_cases h : k ∈ seen
  · rw [if_pos h, if_pos h]
    unfold seenM
    rw [List.map_map]
    refine List.map_congr_left fun p _ => ?_
    show (if p = k then (k, true) else (p, true)) = (p, true)
    by_cases e : p = k
    · rw [if_pos e, e]
    · rw [if_neg e]
  · rw [if_neg h, if_neg h]; unfold seenM; simp
theorem addS_fold {κ : Type} [DecidableEq κ] : ∀ (ks seen : List κ), (seen ++ ks).Nodup → ks.foldl addS seen = seen ++ ks
  | [], seen, _ => by simp
  | k :: r, seen, h => by
    have hk : k ∉ seen := fun q => (List.nodup_append.mp h).2.2 k q k List.mem_cons_self rfl
    rw [List.foldl_cons, show addS seen k = seen ++ [k] by unfold addS; rw [if_neg hk]]
    have := addS_fold r (seen ++ [k]) (by simpa using h)
    rw [this]; simp
theorem atI_last {α : Type} (xs : List α) (x : α) : atI (xs ++ [x]) (-1) = some x := by
  unfold atI ixN
  rw [if_neg (by omega), if_pos (by simp; omega)]
  have e : ((-1 : Int) + (xs ++ [x]).length).toNat = xs.length := by simp; omega
  simp only [Option.bind_some, e]
  rw [List.getElem?_append_right (Nat.le_refl _)]
  simp
theorem take_set {α : Type} {xs : List α} {n k : Nat} {x : α} (h : n ≤ k) : (xs.set k x).take n = xs.take n := by
  rw [List.take_set, List.set_eq_of_length_le]
  rw [List.length_take]; omega
theorem take_app {α : Type} {xs ys : List α} {n : Nat} (h : n ≤ xs.length) : (xs ++ ys).take n = xs.take n := List.take_append_of_le_length h
theorem get_app {α : Type} {xs ys : List α} {n : Nat} {x : α} (h : xs[n]? = some x) : (xs ++ ys)[n]? = some x := by
  rw [List.getElem?_append_left (List.getElem?_eq_some_iff.mp h).1, h]
theorem get_end {α : Type} (xs : List α) (x : α) : (xs ++ [x])[xs.length]? = some x := by simp
theorem get_set {α : Type} {xs : List α} {n k : Nat} {x y : α} (h : xs[n]? = some x) (e : k ≠ n) : (xs.set k y)[n]? = some x := by rw [List.getElem?_set_ne e, h]
theorem get_self {α : Type} {xs : List α} {n : Nat} {x y : α} (h : xs[n]? = some x) : (xs.set n y)[n]? = some y := List.getElem?_set_self (List.getElem?_eq_some_iff.mp h).1
@[simp] theorem cGet_app (a : EF) (as : AF) (ρ : Lv) (st : Sto) : cGet a as ρ st = (a ρ st).bind fun w st => if isDic st w = true then (as ρ st).bind fun ws st => gGet w ws st else .bad := rfl
@[simp] theorem sPut_app (o i a : EF) (ρ : Lv) (st : Sto) : sPut o i a ρ st = (a ρ st).s ρ fun w st => (o ρ st).s ρ fun wo st => (i ρ st).s ρ fun wi st => match gPut wo wi w st with | some st => .nx ρ st | none => .bad := rfl
@[simp] theorem cDic1_app (h : Bool) (a b : EF) (ρ : Lv) (st : Sto) : cDic1 h a b ρ st = (a ρ st).bind fun x st => (b ρ st).bind fun y st => dic1R h x y st := rfl
@[simp] theorem cDicH_app (ρ : Lv) (st : Sto) : cDicH ρ st = .ok (.h st.length) (st ++ [⟨true, .dic []⟩]) := rfl
theorem dic1_h {x y : PyData} {k : NestedKey} (h : asKey x = some k) (st : Sto) : dic1R true (.d x) (.d y) st = .ok (.h st.length) (st ++ [⟨true, .dic [(k, y)]⟩]) := by
  unfold dic1R
  simp only [frz_d, h, if_true]
theorem dic1_d {x y : PyData} {k : NestedKey} (h : asKey x = some k) (st : Sto) : dic1R false (.d x) (.d y) st = .ok (.d (kdata [(k, y)])) st := by
  unfold dic1R
  simp only [frz_d, h, Bool.false_eq_true, if_false]
def itemsW (w : W) (st : Sto) : R (List W) := match frz w st with | none => .bad | some (x, st) => match x with | .dict m => .ok (m.map fun p => .d (.tuple [p.1, p.2])) st | _ => .bad
@[simp] theorem iItemsF_app (a : EF) (ρ : Lv) (st : Sto) : iItemsF a ρ st = (a ρ st).bind itemsW := rfl
theorem itemsW_dD {α κ : Type} (kd : κ → PyData) (f : α → PyData) (m : List (κ × α)) (st : Sto) : itemsW (.d (dD kd f m)) st = .ok (m.map fun p => .d (.tuple [kd p.1, f p.2])) st := by
  unfold itemsW dD
  simp only [frz_d, List.map_map]
  rfl
/-- a dict behind a handle walked: frozen -/
theorem walkW_dic {α κ : Type} [DecidableEq κ] {kd : κ → PyData} {kf : κ → NestedKey} (KR : KeyRep kd kf) {f : α → PyData} {m : List (κ × α)} {n : Nat} {st : Sto} {b : Bool} (h : st[n]? = some ⟨b, .dic (dK kf f m)⟩) : walkW (.h n) st = .ok ((m.map (·.1)).map fun k => .d (kd k)) (st.set n ⟨false, .dic (dK kf f m)⟩) := by
  unfold walkW frz
  simp only [h]
  show (match walkD (kdata (dK kf f m)) with | some xs => R.ok (xs.map W.d) _ | none => .bad) = _
  rw [kdata_dK KR]
  unfold dD walkD
  simp only [List.map_map]
  rfl
theorem walkW_lsth {ds : List PyData} {n : Nat} {st : Sto} {b : Bool} (h : st[n]? = some ⟨b, .lst ds⟩) : walkW (.h n) st = .ok (ds.map .d) (st.set n ⟨false, .lst ds⟩) := by
  unfold walkW frz
  simp only [h]
  rfl
/-- a handle put into a list -/
theorem gApp_h {n k : Nat} {st : Sto} {ds : List PyData} {b : Bool} {c : MC} (hn : st[n]? = some ⟨true, .lst ds⟩) (hk : st[k]? = some ⟨b, c⟩) (e : k ≠ n) (hz : ds.length < 1000000) : gApp (.h n) (.h k) st = .ok (.d .none) ((st.set k ⟨false, c⟩).set n ⟨true, .lst (ds ++ [c.data])⟩) := by
  unfold gApp frz
  simp only [hk]
  have e1 : liveL (st.set k ⟨false, c⟩) (.h n) = some (n, ds) := by unfold liveL; simp only [get_set hn e]
  rw [e1]
  simp only
  rw [if_pos (Nat.lt_of_lt_of_le hz (small_le (Nat.le_refl _)))]
theorem gApp_d {n : Nat} {st : Sto} {ds : List PyData} {x : PyData} (hn : st[n]? = some ⟨true, .lst ds⟩) (hz : ds.length < 1000000) : gApp (.h n) (.d x) st = .ok (.d .none) (st.set n ⟨true, .lst (ds ++ [x])⟩) := by
  unfold gApp
  simp only [frz_d]
  have e1 : liveL st (.h n) = some (n, ds) := by unfold liveL; simp only [hn]
  rw [e1]
  simp only
  rw [if_pos (Nat.lt_of_lt_of_le hz (small_le (Nat.le_refl _)))]
theorem isLst_at {n : Nat} {st : Sto} {ds : List PyData} {b : Bool} (hn : st[n]? = some ⟨b, .lst ds⟩) : isLst st n = true := by unfold isLst; rw [hn]
theorem fDic0_dD {α κ : Type} (kd : κ → PyData) (f : α → PyData) (neg : Bool) (m : List (κ × α)) : fDic0 neg (dD kd f m) (.dict []) = some (.bool (neg != m.isEmpty)) := by
  unfold fDic0 dD
  cases m <;> rfl
end Fx

namespace Fx
open PySem PySem.Spec L2
open PyProof.Rows hiding St

theorem seq_nx {F K : SF} {ρ ρ' : Lv} {st st' : Sto} {r : SR} (h : F ρ st = .nx ρ' st') (k : K ρ' st' = r) : sSeq F K ρ st = r := by rw [sSeq_app, h]; exact k
theorem seq_rt {F K : SF} {ρ : Lv} {st st' : Sto} {w : W} (h : F ρ st = .rt w st') : sSeq F K ρ st = .rt w st' := by rw [sSeq_app, h]
theorem seq_exc {F K : SF} {ρ ρ' : Lv} {st st' : Sto} {c : Str} (h : F ρ st = .exc c ρ' st') : sSeq F K ρ st = .exc c ρ' st' := by rw [sSeq_app, h]
theorem sIx_m1 {n d : Nat} (h : 1 ≤ n) : HT.sIx n d (some (-1)) = n - 1 := by
  unfold HT.sIx
  simp only
  rw [if_pos (by omega)]
  omega
theorem fSl_init {α : Type} (f : α → PyData) (xs : List α) (x : α) : fSl none (some (-1)) (.list ((xs ++ [x]).map f)) = some (.list (xs.map f)) := by
  show some (PyData.list (cutD _ _ _)) = _
  rw [cutD_map, sIx_m1 (by simp)]
  simp [HT.sIx]
theorem fSl_initT {α : Type} (f : α → PyData) (xs : List α) (x : α) : fSl none (some (-1)) (.tuple ((xs ++ [x]).map f)) = some (.tuple (xs.map f)) := by
  show some (PyData.tuple (cutD _ _ _)) = _
  rw [cutD_map, sIx_m1 (by simp)]
  simp [HT.sIx]
theorem fIx_lastL {α : Type} (f : α → PyData) (xs : List α) (x : α) : fIx (.list ((xs ++ [x]).map f)) (.int (-1)) = some (f x) := by
  show atI _ _ = _
  rw [List.map_append, List.map_cons, List.map_nil, atI_last]
theorem fIx_lastT {α : Type} (f : α → PyData) (xs : List α) (x : α) : fIx (.tuple ((xs ++ [x]).map f)) (.int (-1)) = some (f x) := by
  show atI _ _ = _
  rw [List.map_append, List.map_cons, List.map_nil, atI_last]
@[simp] theorem fNeg_one : fNeg (.int 1) = some (.int (-1)) := rfl
end Fx

namespace Fx
open PySem PySem.Spec L2
open PyProof.Rows hiding St

theorem rg_pos {n : Int} (h : 1 ≤ n) : ∃ t, rg n = 0 :: t := by
  unfold rg
  obtain ⟨m, hm⟩ : ∃ m, n.toNat = m + 1 := ⟨n.toNat - 1, by omega⟩
  rw [hm, List.range_succ_eq_map]
  exact ⟨_, rfl⟩

/-! ### level by level, marked at once -/
section
variable {α : Type} [DecidableEq α] {nb : α → List α}
def addF (p : List α × List α) (o : α) : List α × List α := if o ∈ p.1 then p else (p.1 ++ [o], p.2 ++ [o])
def nextF (nb : α → List α) (seen front : List α) : List α × List α := front.foldl (fun p m => (nb m).foldl addF p) (seen, [])
/-- what the marking keeps: behind seen stands later, and all of it lies in T -/
structure FOk (seen : List α) (T : α → Prop) (p : List α × List α) : Prop where
  e : p.1 = seen ++ p.2
  nd : p.1.Nodup
  mem : ∀ g, g ∈ p.2 ↔ g ∉ seen ∧ T g
theorem FOk.add {seen : List α} {T T' : α → Prop} {p : List α × List α} (h : FOk seen T p) {o : α} (hT : ∀ g, T' g ↔ T g ∨ g = o) : FOk seen T' (addF p o) := by
  unfold addF
  by_cases hx : o ∈ p.1
  · rw [if_pos hx]
    refine ⟨h.e, h.nd, fun g => ?_⟩
    rw [h.mem, hT]
    constructor
    · rintro ⟨a, b⟩; exact ⟨a, .inl b⟩
    · rintro ⟨a, b | b⟩
      · exact ⟨a, b⟩
      · subst b
        rw [h.e] at hx
        rcases List.mem_append.mp hx with q | q
        · exact absurd q a
        · exact (h.mem g).mp q
  · rw [if_neg hx]
    refine ⟨by rw [h.e, List.append_assoc], ?_, fun g => ?_⟩
    · rw [List.nodup_append]
      exact ⟨h.nd, by simp, fun a ha b hb e => hx (by simp only [List.mem_singleton] at hb; subst hb; subst e; exact ha)⟩
    · rw [List.mem_append, h.mem, hT, List.mem_singleton]
      constructor
      · rintro (⟨a, b⟩ | b)
        · exact ⟨a, .inl b⟩
        · subst b
          exact ⟨fun q => hx (by rw [h.e]; exact List.mem_append_left _ q), .inr rfl⟩
      · rintro ⟨a, b | b⟩
        · exact .inl ⟨a, b⟩
        · exact .inr b
theorem FOk.adds {seen : List α} : ∀ (os : List α) {T T' : α → Prop} {p : List α × List α}, FOk seen T p → (∀ g, T' g ↔ T g ∨ g ∈ os) → FOk seen T' (os.foldl addF p)
  | [], T, T', p, h, hT => ⟨h.e, h.nd, fun g => by show g ∈ p.2 ↔ _; rw [h.mem, hT]; simp⟩
  | o :: r, T, T', p, h, hT => FOk.adds r (T := fun g => T g ∨ g = o) (h.add fun g => Iff.rfl) fun g => by rw [hT, List.mem_cons, or_assoc]
theorem FOk.all {seen : List α} : ∀ (front : List α) {T T' : α → Prop} {p : List α × List α}, FOk seen T p → (∀ g, T' g ↔ T g ∨ ∃ m ∈ front, g ∈ nb m) → FOk seen T' (front.foldl (fun p m => (nb m).foldl addF p) p)
  | [], T, T', p, h, hT => ⟨h.e, h.nd, fun g => by show g ∈ p.2 ↔ _; rw [h.mem, hT]; simp⟩
  | m :: r, T, T', p, h, hT => FOk.all r (T := fun g => T g ∨ g ∈ nb m) (h.adds (nb m) fun g => Iff.rfl) fun g => by
    rw [hT, or_assoc]
    simp only [List.mem_cons, exists_eq_or_imp]
theorem nextF_ok {seen front : List α} (h : seen.Nodup) : FOk seen (fun g => ∃ m ∈ front, g ∈ nb m) (nextF nb seen front) :=
  FOk.all front (T := fun _ => False) ⟨by simp, h, fun g => by simp⟩ fun g => by simp
end

/-! ### ways without a fall -/
def safeT (L : List Int) (s : Pr) (t : Tn) : Bool := t.isC || decide ((aft L s t).2 = s.2)
def nbS (L : List Int) (s : Pr) : List Pr := (allT.filter (safeT L s)).map (aft L s)
theorem mem_nbS {L : List Int} {s g : Pr} : g ∈ nbS L s ↔ ∃ t, safeT L s t = true ∧ aft L s t = g := by
  unfold nbS
  rw [List.mem_map]
  exact ⟨fun ⟨t, h, e⟩ => ⟨t, (List.mem_filter.mp h).2, e⟩, fun ⟨t, h, e⟩ => ⟨t, List.mem_filter.mpr ⟨mem_allT t, h⟩, e⟩⟩
theorem nbS_nbs {L : List Int} (x y : Pr) (h : y ∈ nbS L x) : y ∈ nbs L x := by
  obtain ⟨t, _, e⟩ := mem_nbS.mp h
  exact mem_nbs.mpr ⟨t, e⟩
def Tn.inv : Tn → Tn
  | .cp => .cm | .cm => .cp | .rp => .rm | .rm => .rp
theorem nxr_back {L : List Int} (h : OkL L) {r : Int} (h0 : 0 ≤ r) (h1 : r < L.length) (t : Tn) : nxr L (nxr L r t) t.inv = r := by
  have hl := h.len
  cases t
  · rfl
  · rfl
  · show ((r + 1) % (L.length : Int) - 1) % L.length = r
    rw [Int.emod_sub_emod, show r + 1 - 1 = r by omega, Int.emod_eq_of_lt h0 h1]
  · show ((r - 1) % (L.length : Int) + 1) % L.length = r
    rw [Int.emod_add_emod, show r - 1 + 1 = r by omega, Int.emod_eq_of_lt h0 h1]
theorem safe_back {L : List Int} (h : OkL L) {s : Pr} (hs : OkS L s) {t : Tn} (ht : safeT L s t = true) : aft L (aft L s t) t.inv = s ∧ safeT L (aft L s t) t.inv = true := by
  have a := h.at hs.r0 hs.r1
  have c0 := hs.c0
  have c1 := hs.c1
  have back : aft L (aft L s t) t.inv = s := by
    cases t with
    | cp =>
      show (s.1, ((s.2 + 1) % gL L s.1 - 1) % gL L s.1) = s
      rw [Int.emod_sub_emod, show s.2 + 1 - 1 = s.2 by omega, Int.emod_eq_of_lt c0 c1]
    | cm =>
      show (s.1, ((s.2 - 1) % gL L s.1 + 1) % gL L s.1) = s
      rw [Int.emod_add_emod, show s.2 - 1 + 1 = s.2 by omega, Int.emod_eq_of_lt c0 c1]
    | rp =>
      have e2 : (aft L s .rp).2 = s.2 := by simpa [safeT, Tn.isC] using ht
      have e1 := nxr_back h hs.r0 hs.r1 .rp
      have e0 : aft L s .rp = (nxr L s.1 .rp, s.2) := Prod.ext rfl e2
      rw [e0]
      show (nxr L (nxr L s.1 .rp) .rm, min s.2 (gL L (nxr L (nxr L s.1 .rp) .rm) - 1)) = s
      have e1 : nxr L (nxr L s.1 .rp) .rm = s.1 := e1
      rw [e1, show min s.2 (gL L s.1 - 1) = s.2 by omega]
    | rm =>
      have e2 : (aft L s .rm).2 = s.2 := by simpa [safeT, Tn.isC] using ht
      have e1 := nxr_back h hs.r0 hs.r1 .rm
      have e0 : aft L s .rm = (nxr L s.1 .rm, s.2) := Prod.ext rfl e2
      rw [e0]
      show (nxr L (nxr L s.1 .rm) .rp, min s.2 (gL L (nxr L (nxr L s.1 .rm) .rp) - 1)) = s
      have e1 : nxr L (nxr L s.1 .rm) .rp = s.1 := e1
      rw [e1, show min s.2 (gL L s.1 - 1) = s.2 by omega]
  refine ⟨back, ?_⟩
  unfold safeT at ht ⊢
  rw [back]
  cases t <;> simp_all [Tn.isC, Tn.inv]
theorem nbS_sym {L : List Int} (h : OkL L) {x y : Pr} (hx : OkS L x) (hy : y ∈ nbS L x) : x ∈ nbS L y := by
  obtain ⟨t, h1, rfl⟩ := mem_nbS.mp hy
  obtain ⟨a, b⟩ := safe_back h hx h1
  exact mem_nbS.mpr ⟨t.inv, b, a⟩
theorem rchS_ok {L : List Int} (h : OkL L) {n : Nat} {s g : Pr} (hs : OkS L s) (r : Rch (nbS L) n s g) : OkS L g := by
  induction n generalizing g with
  | zero => cases r; exact hs
  | succ n ih =>
    obtain ⟨m, h1, h2⟩ := r
    obtain ⟨t, _, rfl⟩ := mem_nbS.mp h2
    exact aft_ok h (ih h1) t
theorem rchS_back {L : List Int} (h : OkL L) {n : Nat} {s g : Pr} (hs : OkS L s) (r : Rch (nbS L) n s g) : Rch (nbS L) n g s := by
  induction n generalizing g with
  | zero => cases r; rfl
  | succ n ih =>
    obtain ⟨m, h1, h2⟩ := r
    have := (Rch.one (nbS_sym h (rchS_ok h hs h1) h2)).trans (ih h1)
    rwa [Nat.add_comm] at this
theorem rchS_col {L : List Int} : ∀ (k : Nat) (s : Pr), Rch (nbS L) k s ((List.replicate k Tn.cp).foldl (aft L) s)
  | 0, s => rfl
  | k + 1, s => by
    have a := (Rch.one (nb := nbS L) (mem_nbS.mpr ⟨.cp, rfl, rfl⟩)).trans (rchS_col k (aft L s .cp))
    rw [Nat.add_comm] at a
    exact a
theorem rchS_row {L : List Int} (h : OkL L) : ∀ (k : Nat) {r : Int}, 0 ≤ r → r < L.length → Rch (nbS L) k (r, 0) ((r + k) % L.length, 0)
  | 0, r, h0, h1 => by
    show (r, (0 : Int)) = ((r + 0) % (L.length : Int), 0)
    rw [Int.add_zero, Int.emod_eq_of_lt h0 h1]
  | k + 1, r, h0, h1 => by
    have b := nxr_ok h h0 h1 .rp
    have c := h.at b.1 b.2
    have e : aft L (r, 0) .rp = (nxr L r .rp, 0) := by
      show (nxr L r .rp, min 0 (gL L (nxr L r .rp) - 1)) = _
      rw [show min 0 (gL L (nxr L r .rp) - 1) = 0 by omega]
    have a := (Rch.one (nb := nbS L) (s := (r, 0)) (g := (nxr L r .rp, 0)) (mem_nbS.mpr ⟨.rp, by unfold safeT; rw [e]; rfl, e⟩)).trans (rchS_row h k b.1 b.2)
    rw [Nat.add_comm] at a
    have e2 : (nxr L r .rp + (k : Int)) % (L.length : Int) = (r + ((k + 1 : Nat) : Int)) % L.length := by
      show ((r + 1) % (L.length : Int) + k) % L.length = _
      rw [Int.emod_add_emod]
      congr 1
      push_cast
      omega
    rw [e2] at a
    exact a
theorem reachS {L : List Int} (h : OkL L) {s g : Pr} (hs : OkS L s) (hg : OkS L g) : ∃ n, Rch (nbS L) n s g ∧ n ≤ 100 := by
  have hl := h.len
  have as := h.at hs.r0 hs.r1
  have ag := h.at hg.r0 hg.r1
  obtain ⟨k1, l1, e1⟩ := col_to hs (c := 0) (Int.le_refl 0) (by omega)
  have r1 := rchS_col (L := L) k1 s
  rw [e1] at r1
  have q0 : 0 ≤ (g.1 - s.1) % (L.length : Int) := Int.emod_nonneg _ (by omega)
  have q1 : (g.1 - s.1) % (L.length : Int) < L.length := Int.emod_lt_of_pos _ hl
  have hle := h.le
  have r2 := rchS_row h ((g.1 - s.1) % (L.length : Int)).toNat hs.r0 hs.r1
  rw [Int.toNat_of_nonneg q0, Int.add_emod, Int.emod_emod, ← Int.add_emod, show s.1 + (g.1 - s.1) = g.1 by omega, Int.emod_eq_of_lt hg.r0 hg.r1] at r2
  obtain ⟨k3, l3, e3⟩ := col_to (L := L) (s := (g.1, 0)) ⟨hg.r0, hg.r1, Int.le_refl 0, by show 0 < gL L g.1; omega⟩ (c := g.2) hg.c0 hg.c1
  have r3 := rchS_col (L := L) k3 (g.1, 0)
  rw [e3] at r3
  have l3 : (k3 : Int) < gL L g.1 := l3
  exact ⟨_, (r1.trans r2).trans r3, by omega⟩
open Classical in
noncomputable def dstS (L : List Int) (s g : Pr) : Nat := if h : ∃ n, Dst (nbS L) s g n then Classical.choose h else 0
theorem dstS_spec {L : List Int} (h : OkL L) {s g : Pr} (hs : OkS L s) (hg : OkS L g) : Dst (nbS L) s g (dstS L s g) := by
  obtain ⟨n, hn, _⟩ := reachS h hs hg
  obtain ⟨m, _, hm⟩ := hn.dst
  have hx : ∃ n, Dst (nbS L) s g n := ⟨m, hm⟩
  unfold dstS
  rw [dif_pos hx]
  exact Classical.choose_spec hx
theorem dstS_le {L : List Int} (h : OkL L) {s g : Pr} (hs : OkS L s) (hg : OkS L g) : dstS L s g ≤ 100 := by
  obtain ⟨n, hn, hb⟩ := reachS h hs hg
  exact Nat.le_trans ((dstS_spec h hs hg).le hn) hb
theorem dstS_eq {L : List Int} (h : OkL L) {s g : Pr} (hs : OkS L s) (hg : OkS L g) {n : Nat} (d : Dst (nbS L) s g n) : dstS L s g = n := (dstS_spec h hs hg).uniq d
theorem dstS_sym {L : List Int} (h : OkL L) {s g : Pr} (hs : OkS L s) (hg : OkS L g) : dstS L g s = dstS L s g := by
  refine dstS_eq h hg hs ⟨rchS_back h hs (dstS_spec h hs hg).1, fun m hm q => ?_⟩
  exact (dstS_spec h hs hg).2 m hm (rchS_back h hg q)
theorem dst_le_S {L : List Int} (h : OkL L) {s g : Pr} (hs : OkS L s) (hg : OkS L g) : dst L s g ≤ dstS L s g := (dst_spec h hs hg).le ((dstS_spec h hs hg).1.mono nbS_nbs)
theorem dstS_tri {L : List Int} (h : OkL L) {s m g : Pr} (hs : OkS L s) (hm : OkS L m) (hg : OkS L g) : dstS L s g ≤ dstS L s m + dstS L m g := (dstS_spec h hs hm).tri (dstS_spec h hm hg) (dstS_spec h hs hg)
theorem dst_tri {L : List Int} (h : OkL L) {s m g : Pr} (hs : OkS L s) (hm : OkS L m) (hg : OkS L g) : dst L s g ≤ dst L s m + dst L m g := (dst_spec h hs hm).tri (dst_spec h hm hg) (dst_spec h hs hg)
theorem dstS_zero {L : List Int} (h : OkL L) {s g : Pr} (hs : OkS L s) (hg : OkS L g) : dstS L s g = 0 ↔ s = g := by
  constructor
  · intro e
    have := dstS_spec h hs hg
    rw [e] at this
    exact Dst.zero_iff.mp this
  · rintro rfl
    exact dstS_eq h hs hs (Dst.zero s)
theorem dst_zero {L : List Int} (h : OkL L) {s g : Pr} (hs : OkS L s) (hg : OkS L g) : dst L s g = 0 ↔ s = g := by
  constructor
  · intro e
    have := dst_spec h hs hg
    rw [e] at this
    exact Dst.zero_iff.mp this
  · rintro rfl
    exact dst_eq h hs hs (Dst.zero s)
/-- all rows alike: no turn falls -/
def Alike (L : List Int) : Prop := ∀ x ∈ L, ∀ y ∈ L, x = y
theorem alike_safe {L : List Int} (h : OkL L) (al : Alike L) {s : Pr} (hs : OkS L s) (t : Tn) : safeT L s t = true := by
  have b := nxr_ok h hs.r0 hs.r1 t
  have e : gL L (nxr L s.1 t) = gL L s.1 := al _ (gL_mem b.1 b.2) _ (gL_mem hs.r0 hs.r1)
  have c1 := hs.c1
  unfold safeT
  cases t
  · rfl
  · rfl
  · have : (aft L s .rp).2 = s.2 := by show min s.2 (gL L (nxr L s.1 .rp) - 1) = s.2; rw [e]; omega
    rw [this]; simp
  · have : (aft L s .rm).2 = s.2 := by show min s.2 (gL L (nxr L s.1 .rm) - 1) = s.2; rw [e]; omega
    rw [this]; simp
theorem rch_S {L : List Int} (h : OkL L) (al : Alike L) {n : Nat} {s g : Pr} (hs : OkS L s) (r : Rch (nbs L) n s g) : Rch (nbS L) n s g := by
  induction n generalizing g with
  | zero => exact r
  | succ n ih =>
    obtain ⟨m, h1, h2⟩ := r
    have k := ih h1
    obtain ⟨t, rfl⟩ := mem_nbs.mp h2
    exact ⟨m, k, mem_nbS.mpr ⟨t, alike_safe h al (rchS_ok h hs k) t, rfl⟩⟩
theorem alike_dst {L : List Int} (h : OkL L) (al : Alike L) {s g : Pr} (hs : OkS L s) (hg : OkS L g) : dstS L s g = dst L s g := by
  have a := dst_le_S h hs hg
  have b := (dstS_spec h hs hg).le (rch_S h al hs (dst_spec h hs hg).1)
  omega

/-! ### a list, by value or behind a handle -/
def LstAt (m : Sto) (w : W) (ds : List PyData) : Prop := w = .d (.list ds) ∨ ∃ l b, w = .h l ∧ m[l]? = some ⟨b, .lst ds⟩
theorem LstAt.der {m : Sto} {w : W} {ds : List PyData} (h : LstAt m w ds) : der m w = some (.list ds) := by
  rcases h with rfl | ⟨l, b, rfl, e⟩
  · rfl
  · rw [der_h, e]; rfl
theorem LstAt.walk {m : Sto} {w : W} {ds : List PyData} (h : LstAt m w ds) (n0 : Nat) (hl : ∀ l, w = .h l → n0 ≤ l) :
    ∃ m', walkW w m = .ok (ds.map .d) m' ∧ m'.length = m.length ∧ m'.take n0 = m.take n0 ∧ (∀ n x, w ≠ .h n → m[n]? = some x → m'[n]? = some x) ∧ LstAt m' w ds := by
  rcases h with rfl | ⟨l, b, rfl, e⟩
  · exact ⟨m, walkW_lst _ _, rfl, rfl, fun _ _ _ h => h, .inl rfl⟩
  · refine ⟨m.set l ⟨false, .lst ds⟩, walkW_lsth e, by simp, take_set (hl l rfl), fun n x hn hx => get_set hx (fun z => hn (by rw [z])), .inr ⟨l, false, rfl, get_self e⟩⟩
theorem LstAt.app {m : Sto} {w : W} {ds : List PyData} (h : LstAt m w ds) (ys : Sto) : LstAt (m ++ ys) w ds := h.imp id fun ⟨l, b, e, q⟩ => ⟨l, b, e, get_app q⟩
theorem LstAt.set {m : Sto} {w : W} {ds : List PyData} (h : LstAt m w ds) {k : Nat} {x : MO} (hk : w ≠ .h k) : LstAt (m.set k x) w ds := h.imp id fun ⟨l, b, e, q⟩ => ⟨l, b, e, get_set q (fun z => hk (by rw [e, z]))⟩
end Fx

namespace Fx
open PySem PySem.Spec L2
open PyProof.Rows hiding St

/-! ### a comprehension behind a handle -/
def lcH (g : GF) (T : TF) (e : EF) (ρ : Lv) : List W → List W → Sto → R W
  | [], acc, st => match datas acc with | some xs => .ok (.h st.length) (st ++ [⟨true, .lst xs⟩]) | none => .bad
  | w :: ws, acc, st => match g w ρ st with
    | none => .bad
    | some ρ1 => match T ρ1 st with
      | .ok true st1 => match e ρ1 st1 with
        | .ok y st2 => lcH g T e ρ ws (acc ++ [y]) st2
        | _ => .bad
      | .ok false st1 => lcH g T e ρ ws acc st1
      | _ => .bad
def cLcH (it : AF) (own : List Nat) (g : GF) (T : TF) (e : EF) : EF := fun ρ st => (it ρ st).bind fun ws st => if ws.length ≤ sizeLine then lcH g T e (wipeL ρ own) ws [] st else .bad
section
variable {X : Cx} {Wx : WX} {elt tg iter : Expr} {ifs : List Expr} {scope : Scope} {own : List (Str × Nat)} {FI' : AF} {g : GF} {sl : List Nat} {T : TF} {Fe : EF} {pos : Pos}
/-- the loop of a comprehension, read -/
theorem lc_readH {tg' : TG} {tt : TT} {te : TE} {vs : List Nat}
    (kg : ∀ v w σ H G ad ρ st ρ' Q, RepS (wd X) G ad st H → RepL (wd X) G ad ρ σ → Wv (wd X) G ad v w → g w ρ st = some ρ' → (∀ σ', But sl σ σ' → RepL (wd X) G ad ρ' σ' → Q σ' H) → tg' v σ H Q)
    (kt : ∀ σ H G ad ρ st Q, RepS (wd X) G ad st H → RepL (wd X) G ad ρ σ → Post X W0 G ad H σ relB (T ρ st) Q → tt σ H Q)
    (ke : ∀ σ H G ad ρ st Q, RepS (wd X) G ad st H → RepL (wd X) G ad ρ σ → Post X W0 G ad H σ (relW X) (Fe ρ st) Q → te σ H Q) (hsl : ∀ i ∈ sl, i ∈ vs)
    {J : It} {ws : List W} {G1 H1 : Hp} {ad1 : List Addr} {st1 : Sto} {ρ : Lv} {σ : L2.St} {Q : V → Hp → Prop} (rs1 : RepS (wd X) G1 ad1 st1 H1) (rl1 : RepL (wd X) G1 ad1 ρ σ) (rJ : Iters (wd X) G1 ad1 J ws) (hz : ws.length ≤ sizeLine)
    (q : Post X Wx G1 ad1 H1 σ (relW X) (lcH g T Fe (wipeL ρ vs) ws [] st1) Q) : ∀ D, H1 D = none → ∃ W : Nat → Nat → Hp → Prop, (∃ m, W 0 m (upd H1 D (.lst []))) ∧ ∀ i m H, W i m H →
      (J.stop i H ∧ Q (.ref D) H) ∨ (J.go i H ∧ ∃ Nx : Hp → Prop, (∀ H', Nx H' → ∃ m', m' < m ∧ W (i + 1) m' H') ∧ ∀ x H', J.yld i H x H' → tg' x (wipe σ vs) H' fun σ2 H2 => wipe σ2 vs = wipe σ vs ∧ tt σ2 H2 fun b H3 =>
        if b = true then te σ2 H3 fun y H4 => ∃ acc, H4 D = some (.lst acc) ∧ acc.length < sizeLine ∧ Nx (upd H4 D (.lst (acc ++ [y]))) else Nx H3) := by
  intro D hD
  have gD : G1 D = none := rs1.sub.none hD
  have nD : D ∉ ad1 := fun z => by obtain ⟨o, e⟩ := rs1.there z; rw [hD] at e; cases e
  have hinv : ∃ Iv : Nat → Hp → Prop, Iv = fun i H => ∃ G2 ad2 st2 acc us, Step G1 ad1 H1 G2 ad2 H ∧ RepS (wd X) G2 ad2 st2 H ∧ H D = some (.lst us) ∧ G2 D = none ∧ D ∉ ad2 ∧ WvAll (wd X) G2 ad2 us acc ∧ acc.length ≤ i ∧
      Post X Wx G1 ad1 H1 σ (relW X) (lcH g T Fe (wipeL ρ vs) (ws.drop i) acc st2) Q := ⟨_, rfl⟩
  obtain ⟨Iv, eI⟩ := hinv
  refine ⟨fun i m H => m = ws.length - i ∧ i ≤ ws.length ∧ Iv i H, ⟨_, rfl, Nat.zero_le _, ?_⟩, ?_⟩
  · rw [eI]
    exact ⟨G1, ad1, st1, [], [], Step.refl.fresh hD, rs1.other gD nD, upd_same, gD, nD, .nil, Nat.le_refl _, q⟩
  · rintro i m H2 ⟨rfl, hi, iv⟩
    rw [eI] at iv
    obtain ⟨G2, ad2, st2, acc, us, s2, rs2, hD2, gD2, nD2, ra, hacc, q2⟩ := iv
    have rl2 : RepL (wd X) G2 ad2 ρ σ := rl1.step s2
    obtain ⟨hgo, hstop⟩ := rJ G2 ad2 H2 s2.gle s2.adp rs2.sub
    by_cases hlt : i < ws.length
    · have hw : ws[i]? = some ws[i] := List.getElem?_eq_getElem hlt
      obtain ⟨go, yld⟩ := hgo i ws[i] hw
      refine .inr ⟨go, Iv (i + 1), fun H' hN => ⟨ws.length - (i + 1), by omega, rfl, hlt, hN⟩, fun x H' hy => ?_⟩
      obtain ⟨G3, hG⟩ := yld x H' hy
      obtain ⟨s3, rs3, rx⟩ := hG st2 rs2
      obtain ⟨hD3, gD3, nD3⟩ := s3.mine hD2 gD2 nD2
      rw [List.drop_eq_getElem_cons hlt] at q2
      unfold lcH at q2
      have rlw : RepL (wd X) G3 ad2 (wipeL ρ vs) (wipe σ vs) := wipeL_rel (rl2.step s3) vs
      cases eg : g ws[i] (wipeL ρ vs) st2 with
      | none => rw [eg] at q2; exact q2.elim
      | some ρ1 =>
        rw [eg] at q2
        refine kg x ws[i] (wipe σ vs) H' G3 ad2 (wipeL ρ vs) st2 ρ1 _ rs3 rlw rx eg fun σ2 hb rl4 => ⟨(wipe_but hb hsl).trans wipe_wipe, ?_⟩
        refine kt σ2 H' G3 ad2 ρ1 st2 _ rs3 rl4 ?_
        cases et : T ρ1 st2 with
        | exc c st3 => simp only [et] at q2; exact q2.elim
        | bad => simp only [et] at q2; exact q2.elim
        | ok b st3 =>
          intro b' G4 ad4 H4 s4 rs4 eb
          obtain rfl : b' = b := eb
          obtain ⟨hD4, gD4, nD4⟩ := s4.mine hD3 gD3 nD3
          have s24 := s2.trans (s3.trans s4)
          cases b' with
          | false =>
            simp only [et] at q2
            rw [if_neg Bool.false_ne_true, eI]
            exact ⟨G4, ad4, st3, acc, us, s24, rs4, hD4, gD4, nD4, WvAll.step (s3.trans s4) ra, Nat.le_succ_of_le hacc, q2⟩
          | true =>
            simp only [et] at q2
            rw [if_pos rfl]
            refine ke σ2 H4 G4 ad4 ρ1 st3 _ rs4 (rl4.step s4) ?_
            cases ey : Fe ρ1 st3 with
            | exc c st5 => simp only [ey] at q2; exact q2.elim
            | bad => simp only [ey] at q2; exact q2.elim
            | ok y st5 =>
              intro v G5 ad5 H5 s5 rs5 rv
              simp only [ey] at q2
              obtain ⟨hD5, gD5, nD5⟩ := s5.mine hD4 gD4 nD4
              have ra5 := WvAll.step (s3.trans (s4.trans s5)) ra
              refine ⟨us, hD5, by rw [ra5.length]; omega, ?_⟩
              rw [eI]
              exact ⟨G5, ad5, st5, acc ++ [y], us ++ [v], (s24.trans s5).fresh hD, rs5.other gD5 nD5, upd_same, gD5, nD5, ra5.append (.cons rv .nil), by simp; omega, q2⟩
    · have e : i = ws.length := by omega
      subst e
      refine .inl ⟨hstop, ?_⟩
      rw [List.drop_length] at q2
      unfold lcH at q2
      have eH : upd H2 D (.lst us) = H2 := funext fun b => by
        by_cases hb : b = D
        · subst hb; rw [upd_same, hD2]
        · rw [upd_ne hb]
      cases ed : datas acc with
      | some xs =>
        simp only [ed] at q2
        have s5 : Step G1 ad1 H1 G2 (ad2 ++ [D]) (upd H2 D (.lst us)) := s2.freshH hD
        have rs5 : RepS (wd X) G2 (ad2 ++ [D]) (st2 ++ [⟨true, .lst xs⟩]) (upd H2 D (.lst us)) := rs2.newHX (c := .lst xs) gD2 nD2 ⟨gD2, us, upd_same, datas_rel ra ed⟩
        rw [eH] at s5 rs5
        exact q2 _ _ _ H2 s5 rs5 (.h (by rw [rs2.len]; simp))
      | none => simp only [ed] at q2; exact q2.elim
theorem fe_lcH (hc : X.calm = true) (hN : X.N.Nodup) (hi : FI X Wx tg iter FI') (ok : BlkOk X.N X.env.scope scope own) (hg : Blk X scope fun Y => FG Y tg g sl) (ht : Blk X scope fun Y => FTs Y W0 ifs T) (he : Blk X scope fun Y => FE Y W0 elt Fe) (hsl : ∀ i ∈ sl, i ∈ own.map (·.2))
    (hs : ∀ x, foldedSetIterable iter X.env x = pure x := by intro _; rfl) : FE X Wx (.ListComp elt [⟨tg, iter, ifs, 0⟩] scope pos) (cLcH FI' (own.map (·.2)) g T Fe) := by
  obtain ⟨wi, pi, ki⟩ := hi
  obtain ⟨tg', pg, kg⟩ := blk_g hg
  obtain ⟨tt, pt, kt⟩ := blk_t ht
  obtain ⟨te, pe, ke⟩ := blk_e he
  refine ⟨_, pe_lc hc hN pi ok pg pt pe hs, fun σ H G ad ρ st Q rs rl h => ?_⟩
  refine ki σ H G ad ρ st _ rs rl (Post.bind h fun ws st1 J G1 ad1 H1 _ s1 rs1 rJ q => ?_)
  split at q
  · rename_i hz
    exact lc_readH kg kt ke hsl rs1 (rl.step s1) rJ hz q
  · exact q.elim
/-- name = [..], the name a plain local -/
theorem fs_setLcH {i : Nat} {y : Str} {py spos : Pos} (hc : X.calm = true) (hN : X.N.Nodup) (hy : X.N[i]? = some y) (hyl : X.env.scope.names.lookup y = some .local)
    (hsw : swapsWith (.ListComp elt [⟨tg, iter, ifs, 0⟩] scope pos) (some (.Name y py)) spos.line X.env = pure true) (hi : FI X Wx tg iter FI') (ok : BlkOk X.N X.env.scope scope own) (hg : Blk X scope fun Y => FG Y tg g sl) (ht : Blk X scope fun Y => FTs Y W0 ifs T) (he : Blk X scope fun Y => FE Y W0 elt Fe) (hsl : ∀ i ∈ sl, i ∈ own.map (·.2))
    (hs : ∀ x, foldedSetIterable iter X.env x = pure x := by intro _; rfl) : FS X Wx (.Assign [.Name y py] (.ListComp elt [⟨tg, iter, ifs, 0⟩] scope pos) spos) (sSet i (cLcH FI' (own.map (·.2)) g T Fe)) := by
  obtain ⟨wi, pi, ki⟩ := hi
  obtain ⟨tg', pg, kg⟩ := blk_g hg
  obtain ⟨tt, pt, kt⟩ := blk_t ht
  obtain ⟨te, pe, ke⟩ := blk_e he
  refine ⟨_, ps_setLc hc hN hy hyl hsw pi ok pg pt pe hs, fun σ H G ad ρ st D rs rl h => ?_⟩
  have h' : Post X Wx G ad H σ (relW X) (cLcH FI' (own.map (·.2)) g T Fe ρ st) (fun x H1 => gName i x σ H1 D.nx) :=
    PostS.ex rl h fun w st1 v G1 ad1 H1 s1 rs1 rv q => q _ G1 ad1 H1 .refl rs1 ((rl.step s1).set rv)
  refine ki σ H G ad ρ st _ rs rl (Post.bind h' fun ws st1 J G1 ad1 H1 _ s1 rs1 rJ q => ?_)
  split at q
  · rename_i hz
    exact lc_readH kg kt ke hsl rs1 (rl.step s1) rJ hz q
  · exact q.elim
end
theorem lcH_nil (g : GF) (T : TF) (e : EF) (ρ : Lv) (acc : List W) (st : Sto) : lcH g T e ρ [] acc st = match datas acc with | some xs => .ok (.h st.length) (st ++ [⟨true, .lst xs⟩]) | none => .bad := rfl
theorem lcH_cons (g : GF) (T : TF) (e : EF) (ρ : Lv) (w : W) (ws acc : List W) (st : Sto) : lcH g T e ρ (w :: ws) acc st = match g w ρ st with
    | none => .bad
    | some ρ1 => match T ρ1 st with
      | .ok true st1 => match e ρ1 st1 with
        | .ok y st2 => lcH g T e ρ ws (acc ++ [y]) st2
        | _ => .bad
      | .ok false st1 => lcH g T e ρ ws acc st1
      | _ => .bad := rfl
theorem lcH_filter {α : Type} {g : GF} {T : TF} {e : EF} {ρ : Lv} {st : Sto} (win : α → W) (p : α → Bool) (out : α → PyData) : ∀ (xs : List α) (acc : List PyData),
    (∀ x ∈ xs, ∃ ρ1, g (win x) ρ st = some ρ1 ∧ T ρ1 st = .ok (p x) st ∧ (p x = true → e ρ1 st = .ok (.d (out x)) st)) → lcH g T e ρ (xs.map win) (acc.map .d) st = .ok (.h st.length) (st ++ [⟨true, .lst (acc ++ (xs.filter p).map out)⟩])
  | [], acc, _ => by rw [List.map_nil, lcH_nil, datas_map]; simp
  | x :: r, acc, k => by
    obtain ⟨ρ1, e1, e2, e3⟩ := k x List.mem_cons_self
    have ih := fun acc => lcH_filter win p out r acc fun y hy => k y (List.mem_cons_of_mem _ hy)
    rw [List.map_cons, lcH_cons, e1]
    simp only [e2]
    cases hp : p x with
    | true =>
      simp only [e3 hp]
      have := ih (acc ++ [out x])
      rw [List.map_append] at this
      rw [show acc.map W.d ++ [W.d (out x)] = acc.map W.d ++ [out x].map W.d from rfl, this]
      simp [hp]
    | false => simp only []; rw [ih acc]; simp [hp]
theorem lcH_map {α : Type} {g : GF} {T : TF} {e : EF} {ρ : Lv} {st : Sto} (win : α → W) (out : α → PyData) (xs : List α)
    (k : ∀ x ∈ xs, ∃ ρ1, g (win x) ρ st = some ρ1 ∧ T ρ1 st = .ok true st ∧ e ρ1 st = .ok (.d (out x)) st) : lcH g T e ρ (xs.map win) [] st = .ok (.h st.length) (st ++ [⟨true, .lst (xs.map out)⟩]) := by
  have := lcH_filter (g := g) (T := T) (e := e) (ρ := ρ) (st := st) win (fun _ => true) out xs [] fun x hx => let ⟨ρ1, a, b, c⟩ := k x hx; ⟨ρ1, a, b, fun _ => c⟩
  have e : xs.filter (fun _ => true) = xs := List.filter_eq_self.mpr fun _ _ => rfl
  rw [e] at this
  simpa using this
@[simp] theorem cLcH_app (it : AF) (own : List Nat) (g : GF) (T : TF) (e : EF) (ρ : Lv) (st : Sto) : cLcH it own g T e ρ st = (it ρ st).bind fun ws st => if ws.length ≤ sizeLine then lcH g T e (wipeL ρ own) ws [] st else .bad := rfl
end Fx

namespace Fx
open PySem PySem.Spec L2
open PyProof.Rows hiding St

/-- a while that ends by a return -/
theorem whileF_ret {S : Type} {c : TF} {F : SF} (I : S → Lv → Sto → Prop) (Done : W → Sto → Prop) (μ : S → Nat)
    (step : ∀ s ρ st, I s ρ st → ∃ st1, c ρ st = .ok true st1 ∧ ((∃ w st', F ρ st1 = .rt w st' ∧ Done w st') ∨ ∃ s' ρ' st', F ρ st1 = .nx ρ' st' ∧ I s' ρ' st' ∧ μ s' < μ s)) :
    ∀ (n : Nat) (s : S) (ρ : Lv) (st : Sto), μ s < n → I s ρ st → ∃ w st', whileF c F n ρ st = .rt w st' ∧ Done w st'
  | 0, s, ρ, st, h, _ => absurd h (Nat.not_lt_zero _)
  | n + 1, s, ρ, st, h, i => by
    obtain ⟨st1, e1, ⟨w, st', e2, d⟩ | ⟨s', ρ', st', e2, i2, hm⟩⟩ := step s ρ st i
    · refine ⟨w, st', ?_, d⟩
      unfold whileF
      rw [e1]
      show (match F ρ st1 with | .nx ρ2 st2 => whileF c F n ρ2 st2 | .ct ρ2 st2 => whileF c F n ρ2 st2 | .bk ρ2 st2 => .nx ρ2 st2 | r => r) = _
      rw [e2]
    · obtain ⟨w, st2, e3, d⟩ := whileF_ret I Done μ step n s' ρ' st' (by omega) i2
      refine ⟨w, st2, ?_, d⟩
      unfold whileF
      rw [e1]
      show (match F ρ st1 with | .nx ρ2 st2 => whileF c F n ρ2 st2 | .ct ρ2 st2 => whileF c F n ρ2 st2 | .bk ρ2 st2 => .nx ρ2 st2 | r => r) = _
      rw [e2]
      exact e3
/-- counting down -/
def cdn : Nat → List Int
  | 0 => []
  | n + 1 => (n : Int) :: cdn n
theorem cdn_range (d : Nat) : cdn d = (List.range d).map fun (i : Nat) => ((d : Int) - 1 + (i : Int) * (-1)) := by
  induction d with
  | zero => rfl
  | succ d ih =>
    rw [List.range_succ_eq_map, List.map_cons, List.map_map]
    show (d : Int) :: cdn d = _
    rw [ih]
    congr 1
    · push_cast; omega
    · refine List.map_congr_left fun i _ => ?_
      show (d : Int) - 1 + (i : Int) * (-1) = ((d + 1 : Nat) : Int) - 1 + ((i + 1 : Nat) : Int) * (-1)
      push_cast
      omega
theorem cdn_ok : ∀ m : Fin 501, ((-1 : Int) ≠ 0 ∧ (-1 : Int).natAbs < 1073741824 ∧ Builtin.Range.small ((m.val : Int) - 1) (-1) (-1) = true ∧ 0 ≤ Builtin.Range.rangeSize ((m.val : Int) - 1) (-1) (-1)) ∧ (Builtin.Range.rangeSize ((m.val : Int) - 1) (-1) (-1)).toNat = m.val := by decide +kernel
theorem gRange3_down {d : Nat} (h : d ≤ 500) (st : Sto) : gRange3 [.d (.int ((d : Int) - 1)), .d (.int (-1)), .d (.int (-1))] st = .ok ((cdn d).map fun i => .d (.int i)) st := by
  have k := cdn_ok ⟨d, by omega⟩
  unfold gRange3
  simp only
  rw [if_pos k.1, k.2, cdn_range]
  unfold rangeC
  rw [List.map_map, List.map_map]; rfl
end Fx

namespace Fx
open PySem PySem.Spec L2
open PyProof.Rows hiding St

/-! ### four at once: through a tuple that is not kept -/
def sPar4 (i j k l : Nat) (a : AF) : SF := fun ρ st => (a ρ st).s ρ fun ws st => match ws with | [x, y, z, u] => .nx ((((ρ.set i (some x)).set j (some y)).set k (some z)).set l (some u)) st | _ => .bad
@[simp] theorem sPar4_app (i j k l : Nat) (a : AF) (ρ : Lv) (st : Sto) : sPar4 i j k l a ρ st = (a ρ st).s ρ fun ws st => match ws with | [x, y, z, u] => .nx ((((ρ.set i (some x)).set j (some y)).set k (some z)).set l (some u)) st | _ => .bad := rfl
section
variable {X : Cx} {Wx : WX} {FAs : AF} {pos : Pos}
theorem fs_par4 {i j k l : Nat} {x y z u : Str} {a b c d : Expr} {px py pz pu pt : Pos} {kt k2 pt2} (hc : X.calm = true) (hN : X.N.Nodup) (hi : X.N[i]? = some x) (hj : X.N[j]? = some y) (hk : X.N[k]? = some z) (hl : X.N[l]? = some u)
    (hx : X.env.scope.names.lookup x = some .local) (hy : X.env.scope.names.lookup y = some .local) (hz : X.env.scope.names.lookup z = some .local) (hu : X.env.scope.names.lookup u = some .local) (ha : FA X Wx [a, b, c, d] FAs)
    (hw : swappedStores [.Tuple [.Name x px, .Name y py, .Name z pz, .Name u pu] kt pt] (.Tuple [a, b, c, d] k2 pt2) X.env = pure none := by rfl)
    (hs : swapsWithSole [.Tuple [.Name x px, .Name y py, .Name z pz, .Name u pu] kt pt] (.Tuple [a, b, c, d] k2 pt2) pos.line X.env = pure false := by rfl)
    (h1 : (assignEach [.Tuple [.Name x px, .Name y py, .Name z pz, .Name u pu] kt pt] X.env).map (·.2) = [assign (.Tuple [.Name x px, .Name y py, .Name z pz, .Name u pu] kt pt) X.env] := by rfl)
    (hn : (assignEach [.Name x px, .Name y py, .Name z pz, .Name u pu] X.env).length = 4 := by rfl) (hst : (assignEach [.Name x px, .Name y py, .Name z pz, .Name u pu] X.env).findIdx? (·.1) = none := by rfl)
    (hs1 : (assignEach [.Name x px, .Name y py, .Name z pz, .Name u pu] X.env).map (·.2) = assign (.Name x px) X.env :: (assignEach [.Name y py, .Name z pz, .Name u pu] X.env).map (·.2) := by rfl)
    (hs2 : (assignEach [.Name y py, .Name z pz, .Name u pu] X.env).map (·.2) = assign (.Name y py) X.env :: (assignEach [.Name z pz, .Name u pu] X.env).map (·.2) := by rfl)
    (hs3 : (assignEach [.Name z pz, .Name u pu] X.env).map (·.2) = assign (.Name z pz) X.env :: (assignEach [.Name u pu] X.env).map (·.2) := by rfl)
    (hs4 : (assignEach [.Name u pu] X.env).map (·.2) = assign (.Name u pu) X.env :: (assignEach [] X.env).map (·.2) := by rfl) :
    FS X Wx (.Assign [.Tuple [.Name x px, .Name y py, .Name z pz, .Name u pu] kt pt] (.Tuple [a, b, c, d] k2 pt2) pos) (sPar4 i j k l FAs) := by
  obtain ⟨t, p, q, hlen⟩ := ha
  refine ⟨_, ps_asg (pe_tup p) (pg_tup hc (pgs_cons (pg_name (i := i) hN hi (.inl hx) (.inr hx)) (pgs_cons (pg_name (i := j) hN hj (.inl hy) (.inr hy)) (pgs_cons (pg_name (i := k) hN hk (.inl hz) (.inr hz)) (pgs_cons (pg_name (i := l) hN hl (.inl hu) (.inr hu)) pgs_nil hs4) hs3) hs2) hs1) hn hst) hs hw h1, fun σ H G ad ρ st D rs rl h => ?_⟩
  refine q σ H G ad ρ st _ rs rl (PostS.ex rl h fun ws st1 vs G1 ad1 H1 s1 rs1 rv q1 => ?_)
  split at q1
  · cases rv with
    | cons r1 rv => cases rv with
      | cons r2 rv => cases rv with
        | cons r3 rv => cases rv with
          | cons r4 rv =>
            cases rv
            rename_i v1 v2 v3 v4
            refine ⟨by show 4 ≤ sizeLine; decide, fun p hp => ⟨p, [v1, v2, v3, v4], rfl, SqT.of upd_same, rfl, ?_⟩⟩
            have gp := rs1.sub.none hp
            have np : p ∉ ad1 := fun z => by obtain ⟨o, e⟩ := rs1.there z; rw [hp] at e; cases e
            exact ⟨_, _, rfl, _, _, rfl, _, _, rfl, _, _, rfl, rfl, q1 _ G1 ad1 _ (Step.fresh .refl hp) (rs1.other gp np) (((((rl.step s1).set r1).set r2).set r3).set r4)⟩
  · exact q1.elim
end

/-! ### min(d.values()) -/
theorem ents_val {xs : Ents} {vs : List (NestedKey × Addr × Value)} (re : EntsRel xs vs) {is : List Int} (hv : xs.map (·.2.2) = is.map V.int) : ∀ (i : Nat) (q : NestedKey × Addr × Value), vs[i]? = some q → ∃ t, q.2.2 = Value.int (is.getD i 0) t := by
  intro i q hq
  have rel : ∀ {xs : Ents} {vs : List (NestedKey × Addr × Value)} (j : Nat) (q : NestedKey × Addr × Value), EntsRel xs vs → vs[j]? = some q → ∃ x, xs[j]? = some x ∧ RelV x.2.2 q.2.2 := by
    intro xs vs j q r
    induction r generalizing j with
    | nil => intro e; simp at e
    | cons h t ih =>
      intro e
      cases j with
      | zero => cases e; exact ⟨_, rfl, h.2.2⟩
      | succ j => obtain ⟨x, h1, h2⟩ := ih j (by simpa using e); exact ⟨x, by simpa using h1, h2⟩
  obtain ⟨x, h1, h2⟩ := rel i q re hq
  have e1 : (xs.map (·.2.2))[i]? = some x.2.2 := by rw [List.getElem?_map, h1]; rfl
  rw [hv, List.getElem?_map] at e1
  obtain ⟨j, hj, e2⟩ := Option.map_eq_some_iff.mp e1
  rw [← e2] at h2
  obtain ⟨t, e3⟩ := h2
  exact ⟨t, by rw [e3, List.getD_eq_getElem?_getD, hj]; rfl⟩
def tMinV (C : Wd) (td : TE) : TE := fun σ H Q => td σ H fun x H1 => ∃ d xs ep is, x = V.ref d ∧ H1 d = some (dicO C d xs ep) ∧ xs.map (·.2.2) = is.map V.int ∧ is ≠ [] ∧ ∀ m, m ∈ is → (∀ j ∈ is, m ≤ j) → Q (.int m) H1
section
variable {X : Cx} {Wx : WX} {o : Expr} {p pos apos mpos : Pos} {td : TE} {Fo : EF}
theorem pe_minV (hc : X.calm = true) (hg : Gl X "min") (hm : X.mg "min" = none) (hd : PE X o td) (hbase : attributeBase o "values" X.env (eval o X.env) = eval o X.env := by rfl) (hline : (apos.endLine == mpos.line) = true := by rfl)
    (hse : starEach [Expr.Call (.Attribute o "values" apos) [] [] mpos] X.env = [(false, eval (Expr.Call (.Attribute o "values" apos) [] [] mpos) X.env)] := by rfl) :
    PE X (.Call (.Name "min" p) [.Call (.Attribute o "values" apos) [] [] mpos] [] pos) (tMinV (wd X) td) := by
  refine ⟨fun pins s σ H Q I h => ?_⟩
  refine wpAny_Call_Name_kw (ld_blt I hg hm (u := .builtin "min") (by first | rfl | decide +kernel) ?_ (by first | decide +kernel | decide) (by first | decide +kernel | decide))
  rw [hse]
  refine PySem.callWith_builtin1 (wpAny_Call_method0_late hbase hline (thn (hd.run pins s σ H _ I h) fun v s1 ⟨x, H1, I1, r1, a, xs, ep, is, ex, ha, hv, hne, q⟩ => ?_))
  subst ex
  obtain rfl : v = Value.ref a := r1
  obtain ⟨ob, es, ho, exd, hdat, hsz, hsys, vs, re, hes⟩ := dic_bare I1 ha
  have raw : s1.heap.DictRaw a es ep := ⟨ob, ho, exd, hdat⟩
  refine ⟨"dict", "dict.values", F.plainAttrs_dict, F.slot_dict_values, F.type_dict_values, ⟨ob, ho, exd.1⟩, fun b e => ?_, Calls.callWith_builtin rfl (PySem.evalArgs_none ?_)⟩
  · cases e
    exact ⟨ob, ho, exd.2.1⟩
  refine call_meetsIn F.slot_dict_values ⟨ob, ho, exd.1⟩ F.entry_dict_values (F.args_dict_values_1 _) (meets_dict_values_raw a hsys) ⟨⟨es, ep, raw⟩, ?_⟩
  have k1 : ∀ b u, s1.heap.get? b = some u → (s1.heap.push { cls := .type "dict_values", data := .fields #[.ref a] }).get? b = some u := fun b u e => Heap.get?_push_of_some _ e
  have raw1 : (s1.heap.push { cls := .type "dict_values", data := .fields #[.ref a] }).DictRaw a es ep := ⟨ob, k1 _ _ ho, exd, hdat⟩
  have hlv : es.size = is.length := by
    have e1 := congrArg List.length hv
    rw [List.length_map, List.length_map] at e1
    rw [hsz, e1]
  have hlen : 0 < es.size := by rw [hlv]; exact List.length_pos_iff.mpr hne
  have hval : ∀ (i : Nat) (v : Value), (∃ hi : i < es.size, v = es[i].val) → ∃ t, v = Value.int (is.getD i 0) t := fun i v ⟨hi, e⟩ => by
    have h1 : es.toList[i]? = some es[i] := by rw [Array.getElem?_toList, Array.getElem?_eq_getElem hi]
    rw [hes, List.getElem?_map] at h1
    obtain ⟨q, hq, e2⟩ := Option.map_eq_some_iff.mp h1
    obtain ⟨t, e3⟩ := ents_val re hv i q hq
    exact ⟨t, by rw [e, ← e2]; exact e3⟩
  refine call_min_walk (wpAny_pyIter_values_raw (v := s1.heap.objs.size) (d := a) ⟨_, Heap.get?_push_size _ rfl, rfl, rfl⟩ raw1 ?_)
  have hlt : a < s1.heap.objs.size := Heap.lt_size ho
  have hsz1 : (s1.heap.push { cls := .type "dict_values", data := .fields #[.ref a] }).objs.size = s1.heap.objs.size + 1 := Heap.size_push _ _
  refine ⟨_, _, _, _, _, _, _, rfl, Walks.rawValues (A := X.A.in1) (I.ok.hd hc) (s1.heap.push { cls := .type "dict_values", data := .fields #[.ref a] }).objs.size a (by rw [hsz1]; exact Nat.ne_of_lt (Nat.lt_succ_of_lt hlt)) es ep,
    ⟨⟨_, Heap.get?_push_size _ rfl, rfl, rfl⟩, ⟨ob, Heap.get?_push_of_some _ (k1 _ _ ho), exd, hdat⟩⟩, fun b hb => ?_, hlen, CmpOf.ints_lt (fun i => is.getD i 0) hval, fun v h' tk hP hk => ?_⟩
  · show b < ((s1.heap.push _).push _).objs.size
    rw [Heap.size_push, Heap.size_push]
    rw [hsz1] at hb
    rcases List.mem_cons.mp hb with e | hb
    · rw [e]
      exact Nat.lt_succ_self _
    · have e : b = a := List.mem_singleton.mp hb
      rw [e]
      exact Nat.lt_succ_of_lt (Nat.lt_succ_of_lt hlt)
  · obtain ⟨t, rfl⟩ := hval _ v hP
    obtain ⟨b1, b2⟩ := argBest_lt (fun i => is.getD i 0) (es.size - 1)
    refine ⟨.int _, H1, I1.kept (t' := tk) fun b u e => hk b u (fun hmem => ?_) (Heap.get?_push_of_some _ (k1 b u e)), ⟨t, rfl⟩, q _ ?_ fun j hj => ?_⟩
    · have e1 : b = (s1.heap.push { cls := .type "dict_values", data := .fields #[.ref a] }).objs.size := List.mem_singleton.mp hmem
      have e2 := Heap.lt_size e
      rw [hsz1] at e1
      rw [e1] at e2
      exact absurd e2 (Nat.not_lt.mpr (Nat.le_succ _))
    · have hb : argBest (fun i j => decide (is.getD i 0 < is.getD j 0)) (es.size - 1) < is.length := by omega
      rw [List.getD_eq_getElem?_getD, List.getElem?_eq_getElem hb]
      exact List.getElem_mem hb
    · obtain ⟨i, hi, e⟩ := List.mem_iff_getElem.mp hj
      have e2 : is.getD i 0 = j := by rw [List.getD_eq_getElem?_getD, List.getElem?_eq_getElem hi, ← e]; rfl
      rw [← e2]
      exact b2 i (by omega)
def fMinV : PyData → Option PyData
  | .dict m => match intsD (m.map (·.2)) with
    | some (n :: ns) => some (.int (ns.foldl min n))
    | _ => none
  | _ => none
theorem dvKv_vals {C : Wd} {G : Hp} : ∀ {xs : Ents} {kvs : Kvs}, DvKv C G xs kvs → DvAll C G (xs.map (·.2.2)) ((kvs.map fun p => (p.1.data, p.2)).map (·.2))
  | _, _, .nil => .nil
  | _, _, .cons _ _ h r => .cons h (dvKv_vals r)
theorem fe_minV (hc : X.calm = true) (hg : Gl X "min") (hm : X.mg "min" = none) (ho : FE X Wx o Fo) (hbase : attributeBase o "values" X.env (eval o X.env) = eval o X.env := by rfl) (hline : (apos.endLine == mpos.line) = true := by rfl)
    (hse : starEach [Expr.Call (.Attribute o "values" apos) [] [] mpos] X.env = [(false, eval (Expr.Call (.Attribute o "values" apos) [] [] mpos) X.env)] := by rfl) :
    FE X Wx (.Call (.Name "min" p) [.Call (.Attribute o "values" apos) [] [] mpos] [] pos) (c1 (g1 fMinV) Fo) := by
  refine fe_1 (r := fun x H Q => ∃ d xs ep is, x = V.ref d ∧ H d = some (dicO (wd X) d xs ep) ∧ xs.map (·.2.2) = is.map V.int ∧ is ≠ [] ∧ ∀ m, m ∈ is → (∀ j ∈ is, m ≤ j) → Q (.int m) H) (op1_of fun σ H G ad st v w x d Q rs rv e1 e h => ?_) ho fun _ q => pe_minV hc hg hm q hbase hline hse
  unfold fMinV at e
  split at e
  · rename_i m
    split at e
    · rename_i n ns e2
      cases e
      obtain ⟨a, xs, ep, kvs, rfl, rfl, h1, r1, n1⟩ := der_dic rs rv e1
      refine ⟨a, xs, ep, n :: ns, rfl, h1, ints_rel (dvKv_vals r1) e2, by simp, fun m' hm' hle => ?_⟩
      have b1 := foldl_min_mem ns n
      have b2 := foldl_min_le ns n
      have e3 : m' = ns.foldl min n := by
        have c1' := hle _ b1
        have c2' : ns.foldl min n ≤ m' := by
          rcases List.mem_cons.mp hm' with e | e
          · rw [e]; exact b2.1
          · exact b2.2 _ e
        omega
      rw [e3]
      exact h.val rs (.int _)
    · cases e
  · cases e
end
end Fx

namespace Fx
open PySem PySem.Spec L2
open PyProof.Rows hiding St

/-! ### a dict of the module, texts to texts -/
def TabAt (K : PySem.W.Frag) (a : Addr) : List (Str × Option Str) → Prop
  | [] => True
  | (x, some v) :: r => (∃ t, PySem.W.nsIn K a x = some (some (.str v t))) ∧ TabAt K a r
  | (x, none) :: r => PySem.W.nsIn K a x = some none ∧ TabAt K a r
section
variable {K : PySem.W.Frag} {a : Addr} {x v : Str} {r : List (Str × Option Str)} {t : Tok}
theorem TabAt.nil : TabAt K a [] := trivial
theorem TabAt.some (h : PySem.W.nsIn K a x = Option.some (Option.some (.str v t))) (k : TabAt K a r) : TabAt K a ((x, Option.some v) :: r) := ⟨⟨t, h⟩, k⟩
theorem TabAt.none (h : PySem.W.nsIn K a x = Option.some Option.none) (k : TabAt K a r) : TabAt K a ((x, Option.none) :: r) := ⟨h, k⟩
theorem TabAt.get : ∀ {tab : List (Str × Option Str)}, TabAt K a tab → ∀ {x : Str} {o : Option Str}, aget tab x = Option.some o → match o with
    | Option.some v => ∃ t, PySem.W.nsIn K a x = Option.some (Option.some (.str v t))
    | Option.none => PySem.W.nsIn K a x = Option.some Option.none
  | [], _, _, _, e => by cases e
  | (y, Option.some v) :: r, h, x, o, e => by
    unfold aget at e
    by_cases q : y = x
    · rw [if_pos q] at e; cases e; subst q; exact h.1
    · rw [if_neg q] at e; exact TabAt.get h.2 e
  | (y, Option.none) :: r, h, x, o, e => by
    unfold aget at e
    by_cases q : y = x
    · rw [if_pos q] at e; cases e; subst q; exact h.1
    · rw [if_neg q] at e; exact TabAt.get h.2 e
end
def SDictAt (w : World) (K : PySem.W.Frag) (x : Str) (tab : List (Str × Option Str)) : Prop := ∃ a es n, PySem.W.nsIn K mainGlobals x = some (some (.ref a)) ∧ KDict K w a es n ∧ TabAt K a tab
def SDictK (w : World) (K : PySem.W.Frag) (mg : Str → Option Value) (x : Str) (tab : List (Str × Option Str)) : Prop := ∃ a es n, mg x = some (.ref a) ∧ KDict K w a es n ∧ TabAt K a tab
theorem SDictAt.mk {w : World} {K : PySem.W.Frag} {x : Str} {tab : List (Str × Option Str)} {a : Addr} {es : Array DictEntry} {n : Nat} (h1 : PySem.W.nsIn K mainGlobals x = some (some (.ref a))) (h2 : K.lookup a = some ⟨.type "dict", none, .dict es n, #[]⟩) (h3 : PySem.W.KeysLit w.params es.toList) (h4 : (a == sysModules) = false) (h5 : TabAt K a tab) : SDictAt w K x tab :=
  ⟨a, es, n, h1, ⟨h2, h3, h4⟩, h5⟩
theorem SDictAt.ok {w : World} {K : PySem.W.Frag} {mg : Str → Option Value} {h : Heap} {x : Str} {tab : List (Str × Option Str)} (X : K.In h) (G : h.Ns mainGlobals mg) (D : SDictAt w K x tab) : SDictK w K mg x tab := by
  obtain ⟨a, es, n, h1, h2, h3⟩ := D
  exact ⟨a, es, n, PySem.W.mg_of X G h1, h2, h3⟩
def cIxS (tab : List (Str × Option Str)) (b : EF) : EF := fun ρ st => (b ρ st).bind fun w st => match w with
  | .d (.str z) => (match aget tab z with | some (some v) => .ok (.d (.str v)) st | _ => .bad)
  | _ => .bad
def tInS (tab : List (Str × Option Str)) (a : EF) : TF := fun ρ st => (a ρ st).bind fun w st => match w with
  | .d (.str z) => (match aget tab z with | some o => .ok o.isSome st | none => .bad)
  | _ => .bad
@[simp] theorem cIxS_app (tab : List (Str × Option Str)) (b : EF) (ρ : Lv) (st : Sto) : cIxS tab b ρ st = (b ρ st).bind fun w st => match w with
  | .d (.str z) => (match aget tab z with | some (some v) => .ok (.d (.str v)) st | _ => .bad)
  | _ => .bad := rfl
@[simp] theorem tInS_app (tab : List (Str × Option Str)) (a : EF) (ρ : Lv) (st : Sto) : tInS tab a ρ st = (a ρ st).bind fun w st => match w with
  | .d (.str z) => (match aget tab z with | some o => .ok o.isSome st | none => .bad)
  | _ => .bad := rfl
section
variable {X : Cx} {Wx : WX} {x : Str} {a b : Expr} {Fa Fb : EF} {tab : List (Str × Option Str)} {pos p : Pos}
theorem fe_ixS (D : SDictK X.w X.K X.mg x tab) (hg : Gl X x) (hb : FE X Wx b Fb) (hs : PlainIx b) (hd : (x == ("__debug__" : Str)) = false := by decide) : FE X Wx (.Subscript (.Name x p) b pos) (cIxS tab Fb) := by
  obtain ⟨d, es, n, h1, h2, h3⟩ := D
  obtain ⟨tb, pb, kb⟩ := hb
  refine ⟨_, pe_ix ix_kdict (pe_glob (v := .ref d) hg h1 rfl hd) pb hs, fun σ H G ad ρ st Q rs rl h => ?_⟩
  refine kb σ H G ad ρ st _ rs rl (Post.bind h fun w st1 v G1 ad1 H1 e1 s1 rs1 rv q => ?_)
  split at q
  · rename_i z
    split at q
    · rename_i v0 e2
      cases rv with | d rv => cases rv; exact ⟨d, z, .str v0, rfl, rfl, (by obtain ⟨t, e3⟩ := TabAt.get h3 e2; exact ⟨es, n, _, h2.at_, h2.lit, e3, ⟨t, rfl⟩⟩), q.val rs1 (.str v0)⟩
    · exact q.elim
  · exact q.elim
theorem ft_inS (D : SDictK X.w X.K X.mg x tab) (hg : Gl X x) (ha : FE X Wx a Fa) (hm : behindInMarks .In (.Name x p) = false) (hd : (x == ("__debug__" : Str)) = false := by decide) : FT X Wx (.Compare a [.In] [.Name x p] pos) (tInS tab Fa) := by
  obtain ⟨d, es, n, h1, h2, h3⟩ := D
  obtain ⟨ta, pa, ka⟩ := ha
  refine ⟨_, pt_cmpR (op_in_kd h2) pa (pe_glob (v := .ref d) hg h1 rfl hd) hm, fun σ H G ad ρ st Q rs rl h => ?_⟩
  refine ka σ H G ad ρ st _ rs rl (Post.bind h fun w st1 v G1 ad1 H1 e1 s1 rs1 rv q => ?_)
  split at q
  · rename_i z
    split at q
    · rename_i o e2
      cases rv with | d rv =>
        cases rv
        cases o with
        | some v0 =>
          obtain ⟨t, e3⟩ := TabAt.get h3 e2
          exact ⟨z, _, rfl, rfl, e3, _, rfl, q _ G1 ad1 H1 .refl rs1 rfl⟩
        | none => exact ⟨z, _, rfl, rfl, TabAt.get h3 e2, _, rfl, q _ G1 ad1 H1 .refl rs1 rfl⟩
    · exact q.elim
  · exact q.elim
end
end Fx

namespace Fx
open PySem PySem.Spec L2
open PyProof.Rows hiding St

/-! ### sorted(set(xs)), xs a list of ints as well -/
theorem call_set_listI {P : Program} {w : World} {A : Around} {E : Value → Shared → Prop} {s : Shared} {l : Addr} {items : Array Value} (ns : List Int) {Q : Value → Shared → Prop}
    (hA : A.handled = none) (hl : s.heap.IsList l items) (hi : IntsAre items.toList ns) (hz : ns.length + 1 < scanBound)
    (h : ∀ (h' : Heap) (tk c : Nat), SetR w h' s.heap.objs.size (fun j => decide (j ∈ ns)) c → c ≤ ns.length → (∀ (b : Addr) (o : Obj), s.heap.get? b = some o → h'.get? b = some o) →
      Q (Value.ref s.heap.objs.size) { heap := h', gens := s.gens, drawn := s.drawn, toks := tk, os := s.os }) :
    wpAny (model P w) A (call (.type "set") [.ref l]) Q E s := by
  obtain ⟨c0, tl, hmro⟩ := F.called_set.mro
  have hmade := F.called_set.made
  have hcc := F.called_set.canCreate
  have hnt := F.called_set.notType
  have hsub := F.called_set.sub
  have hchk := F.typeCall_set_1 (.ref l)
  have ho : (s.heap.push { cls := .type "set", data := .set #[] 0 (SetTable.fresh 0 0 !w.params.followText "set-order") }).get? s.heap.objs.size = some { cls := .type "set", data := .set #[] 0 (SetTable.fresh 0 0 !w.params.followText "set-order") } := Heap.get?_push_size _ rfl
  refine wpAny_call (codeAny_of_tree (wpAny_pure ⟨Code.quiet_builtin _ (by decide +kernel), codeAny_builtin F.entry_type_call ?_⟩))
  rw [Around.under_plain (weight_type_call_type _ _ _) rfl]
  unfold Builtin.«type.__call__»
  simp only [hnt, hcc, hchk, Bool.false_eq_true, if_false]
  rw [hmro, hmade]
  simp only [pure_bind, List.isEmpty_cons, Bool.false_eq_true, if_false]
  have hcode := code_set_led1 (P := P) (w := w) (A := A.in1) (E := E) (s := s) (.ref l) (Q₁ := fun obj s1 => obj = .ref s.heap.objs.size ∧ s1 = { s with heap := s.heap.push { cls := .type "set", data := .set #[] 0 (SetTable.fresh 0 0 !w.params.followText "set-order") } }) ⟨rfl, rfl⟩
  refine wpAny_bind (wpAny_holding (wpAny_call (codeAny_mono hcode ?_)))
  intro r s1 hr
  match r, hr with
  | .error e, hr => exact hr
  | .ok (.ret v), hr =>
  obtain ⟨rfl, rfl⟩ := hr
  clear hcode
  refine wpAny_bind (wpAny_isInstance ⟨_, ho, rfl⟩ hsub ?_)
  simp only [Bool.not_true, Bool.false_eq_true, if_false]
  refine wpAny_bind (wpAny_holding ?_)
  unfold callSpecial?
  refine wpAny_bind (wpAny_specialOf ⟨_, ho, rfl⟩ F.slot_set_init.lookup ?_)
  refine wpAny_holding ?_
  rw [F.slot_set_init.bind]
  simp only [pure_bind]
  refine wpAny_bind (wpAny_call (codeAny_call_builtin F.slot_set_init.plain F.entry_set_init (check_set_init_1 ⟨_, ho, rfl⟩ ?_)))
  obtain ⟨⟨ccl, dd, dat, sl⟩, hol, hcl, nl, hdl⟩ := hl
  simp only at hcl hdl
  subst hcl hdl
  have hol' := Heap.get?_push_of_some { cls := .type "set", data := .set #[] 0 (SetTable.fresh 0 0 !w.params.followText "set-order") } hol
  have hl' : (s.heap.push { cls := .type "set", data := .set #[] 0 (SetTable.fresh 0 0 !w.params.followText "set-order") }).IsList l items := ⟨_, hol', rfl, nl, rfl⟩
  unfold Builtin.«set.__init__»
  have f1 := F.sub_list_set
  have f2 := F.sub_list_frozenset
  wp_walk using wpAny_loadPart' ho, wpAny_loadPart' hol', wpAny_pyIter_list hl'
  have hsz : items.size = ns.length := by rw [← Array.length_toList]; exact hi.length
  have hlt : l < s.heap.objs.size := Heap.lt_size hol
  have hI : (s.heap.push { cls := .type "set", data := .set #[] 0 (SetTable.fresh 0 0 !w.params.followText "set-order") }).objs.size = s.heap.objs.size + 1 := Heap.size_push _ _
  have hA3 : A.in1.in1.in1.handled = none := hA
  have W := (Walks.list (prog := P) (w := w) hA3 ((s.heap.push { cls := .type "set", data := .set #[] 0 (SetTable.fresh 0 0 !w.params.followText "set-order") }).objs.size) l (Nat.ne_of_lt (by rw [hI]; exact Nat.lt_succ_of_lt hlt)) items).toS
  refine set_update_ints W s.heap.objs.size (by rw [hI]; simp only [List.mem_cons, List.not_mem_nil, or_false, not_or]; exact ⟨Nat.ne_of_lt (Nat.lt_succ_self _), (Nat.ne_of_lt hlt).symm⟩) ns hsz hz (fun i v hv => ?_) items.size 0 _ (Nat.sub_zero _) (Nat.zero_le _) ?_ ⟨0, Nat.le_refl _, setR_new_at (Heap.get?_push_of_some _ ho)⟩ (fun s' c hm hc hR => ?_)
  · have hv' : items[i]? = some v := hv
    have hlt2 := (Array.getElem?_eq_some_iff.mp hv').1
    obtain ⟨t, ht⟩ := hi.int_at i v (by rw [Array.getElem?_toList]; exact hv')
    refine ⟨ns[i]'(by omega), t, List.getElem?_eq_getElem (by omega), ?_⟩
    rw [ht, List.getD_eq_getElem?_getD, List.getElem?_eq_getElem (by omega)]
    rfl
  · exact ⟨⟨_, Heap.get?_push_size _ rfl, rfl, rfl⟩, hl'.push _⟩
  · have fin : Q (.ref s.heap.objs.size) s' := by
      obtain ⟨hp', g', d', tk', os'⟩ := s'
      obtain ⟨mh, mg, md, mo, mt⟩ := hm
      have e1 : g' = s.gens := mg
      have e2 : d' = s.drawn := md
      have e3 : os' = s.os := mo
      subst e1 e2 e3
      refine h hp' tk' c hR (by rw [← hsz]; exact hc) fun b o e => ?_
      refine mh b o ?_ (Heap.get?_push_of_some _ (Heap.get?_push_of_some _ e))
      have hb := Heap.lt_size e
      rw [hI]
      simp only [List.mem_cons, List.not_mem_nil, or_false, not_or]
      exact ⟨Nat.ne_of_lt hb, Nat.ne_of_lt (Nat.lt_succ_of_lt hb)⟩
    refine wpAny_pure (wpAny_pure ?_)
    refine wpAny_pure ?_
    exact wpAny_pure fin

def rSetLO (K : PySem.W.Frag) (w : World) : List V → Hp → VK → Prop := fun xs H Q => ∃ (l : Addr) (ns : List Int), xs = [V.ref l] ∧ SqL K H l (ns.map V.int) ∧ ns.length < 64 ∧ ∀ a n, H a = none → n ≤ ns.length → Q (.ref a) (upd H a (SetO w a (fun j => decide (j ∈ ns)) n))
def rSet4 (K : PySem.W.Frag) (C : Wd) : List V → Hp → VK → Prop := fun xs H Q => rSetLO K C.w xs H Q ∨ rSet3 K C xs H Q
def fSortSet2 : PyData → Option PyData := fun x => match x with
  | .list ds => match intsD ds with
    | some ns => if ns.length < 64 then some (.list ((usort ltI ns).map .int)) else none
    | none => fSortSet (.list ds)
  | x => fSortSet x
section
variable {X : Cx} {Wx : WX}
theorem cr_setLO (hc : X.calm = true) : CallR X (.type "set") (rSetLO X.K X.w) := by
  intro pins s σ H xs us Q I r h
  obtain ⟨l, ns, rfl, hl, hf, q⟩ := h
  rw [Vals.ref1 r]
  obtain ⟨its, rv, pl, hz⟩ := I.list hl
  refine call_set_listI ns (I.ok.hd hc) pl.isList (by simpa using rv.ints) (by unfold scanBound; omega) fun h' tk c R hle hk => ?_
  exact ⟨.ref _, upd H s.heap.objs.size (SetO X.w s.heap.objs.size _ c), I.laid (t' := tk) hk (Nat.le_refl _) (setO_new R), rfl, q _ c (I.hok.fresh (Nat.le_refl _)) hle⟩
theorem o_sortSet2 : Op1 X Wx (g1 fSortSet2) (fun v H Q => rSet4 X.K (wd X) [v] H fun x H2 => rSrt2 X.K (wd X) [x] H2 Q) := op1_of fun σ H G ad st v w x d Q rs rv e1 e h => by
  unfold fSortSet2 at e
  have old : ∀ y, der st w = some y → fSortSet y = some d → rSet4 X.K (wd X) [v] H fun x H2 => rSrt2 X.K (wd X) [x] H2 Q := fun y ey e2 => by
    refine .inr (o_sortSet (Wx := Wx) σ H G ad st v w Q rs rv ?_)
    unfold g1
    rw [ey]
    show Post X Wx G ad H σ (relW X) (okD st (fSortSet y)) Q
    rw [e2]
    exact h
  split at e
  · split at e
    · rename_i ns e2
      split at e
      · rename_i hz
        cases e
        obtain ⟨p, vs, rfl, s1, r1⟩ := der_lst rs rv e1
        obtain rfl := ints_rel r1 e2
        refine .inl ⟨p, ns, rfl, s1, hz, fun a n ha hn => .inl ⟨a, _, n, rfl, upd_same, by omega, fun ns' p' hs hm hl hp' => ?_⟩⟩
        obtain ⟨h', rs'⟩ := h.aside rs (o := SetO X.w a (fun j => decide (j ∈ ns)) n) ha
        have e3 : ns' = usort ltI ns := strict_uniq lin_int (hs.imp fun {a b} q => by simp [ltI]; omega) (usort_sorted lin_int ns) fun x => by rw [hm x, mem_usort]; simp
        rw [e3]
        exact h'.newLst rs' (dvAll_ints _) p' hp'
      · cases e
    · exact old _ e1 e
  · exact old _ e1 e
variable {p p2 q pos : Pos} {a : Expr} {Fa : EF}
theorem cr_set4 (hc : X.calm = true) (hu : Hu X) : CallR X (.type "set") (rSet4 X.K (wd X)) := CallR.or (cr_setLO hc) (cr_set3 hc hu)
theorem fe_sortSet2 (hc : X.calm = true) (hu : Hu X) (hg : Gl X "sorted") (hm : X.mg "sorted" = none) (hg2 : Gl X "set") (hm2 : X.mg "set" = none) (ha : FE X Wx a Fa) (na : starEach [a] X.env = (false, eval a X.env) :: starEach [] X.env := by rfl)
    (nb : starEach [.Call (.Name "set" p2) [a] [] q] X.env = (false, eval (.Call (.Name "set" p2) [a] [] q) X.env) :: starEach [] X.env := by rfl) : FE X Wx (.Call (.Name "sorted" p) [.Call (.Name "set" p2) [a] [] q] [] pos) (c1 (g1 fSortSet2) Fa) :=
  fe_1 o_sortSet2 ha fun ta pa => pe_callB (CallR.or (cr_sortedSet hc) (cr_sortedT hc)) hg hm PyProof.Rows.boot_sorted (pa_cons (pe_callTy (cr_set4 hc hu) hg2 hm2 PyProof.Rows.boot_set (pa_cons pa pa_nil na) (by decide) (by decide) na rfl) pa_nil nb) (by decide) (by decide) nb rfl
end
end Fx

namespace Fx
open PySem PySem.Spec L2
open PyProof.Rows hiding St

/-! ### rows with columns, as keys -/
abbrev RC := Int × List Int
def blD (σ : RC) : PyData := .tuple [.int σ.1, iL σ.2]
def blK (σ : RC) : NestedKey := .tup [.num σ.1, .tup (σ.2.map .num)]
theorem rep_bl : Rep blD 2 := rep_pair rep_int (rep_tup rep_int)
theorem datas_num : ∀ xs : List Int, NestedKey.datas (xs.map .num) = xs.map .int
  | [] => rfl
  | x :: r => by show NestedKey.data (.num x) :: NestedKey.datas (r.map .num) = _; rw [datas_num r]; rfl
theorem blK_data (σ : RC) : (blK σ).data = blD σ := by
  show PyData.tuple [.int σ.1, .tuple (NestedKey.datas (σ.2.map .num))] = _
  rw [datas_num]; rfl
theorem num_inj : ∀ {xs ys : List Int}, xs.map NestedKey.num = ys.map NestedKey.num → xs = ys
  | [], [], _ => rfl
  | [], _ :: _, e => by simp at e
  | _ :: _, [], e => by simp at e
  | x :: r, y :: q, e => by
    rw [List.map_cons, List.map_cons, List.cons.injEq, NestedKey.num.injEq] at e
    rw [e.1, num_inj e.2]
theorem blK_inj {p q : RC} (h : blK p = blK q) : p = q := by
  obtain ⟨a, b⟩ := p
  obtain ⟨c, d⟩ := q
  simp only [blK, NestedKey.tup.injEq, List.cons.injEq, NestedKey.num.injEq, and_true] at h
  rw [h.1, num_inj h.2]
theorem depth_nums : ∀ xs : List Int, NestedKey.depthAll (xs.map .num) ≤ 1
  | [] => by simp [NestedKey.depthAll]
  | x :: r => by
    have := depth_nums r
    simp only [List.map_cons, NestedKey.depthAll, NestedKey.depth]
    omega
theorem blK_depth (σ : RC) : (blK σ).depth ≤ 8 := by
  have := depth_nums σ.2
  simp only [blK, NestedKey.depth, NestedKey.depthAll]
  omega
theorem asKey_bl (σ : RC) : asKey (blD σ) = some (blK σ) := by
  unfold asKey
  have e : toKey (blD σ) = some (blK σ) := by rw [← blK_data]; exact toKey_of _
  rw [e]
  simp only [Option.bind_some]
  rw [if_pos ⟨rfl, blK_depth σ⟩]
theorem keyRep_bl : KeyRep blD blK := ⟨blK_data, blK_inj, asKey_bl⟩

/-! ### turning back -/
theorem inv_inv (t : Tn) : t.inv.inv = t := by cases t <;> rfl
def pre (L : List Int) (σ : RC) (t : Tn) : RC := (nxr L σ.1 t.inv, (rg (gL L (nxr L σ.1 t.inv))).filter fun c => decide ((aft L (nxr L σ.1 t.inv, c) t).2 ∈ σ.2))
structure OkR (L : List Int) (σ : RC) : Prop where
  r0 : 0 ≤ σ.1
  r1 : σ.1 < L.length
  sub : σ.2.Sublist (rg (gL L σ.1))
theorem aft_row (L : List Int) (s : Pr) (t : Tn) : (aft L s t).1 = nxr L s.1 t := by cases t <;> rfl
theorem pre_ok {L : List Int} (h : OkL L) {σ : RC} (hs : OkR L σ) (t : Tn) : OkR L (pre L σ t) := by
  have a := nxr_ok h hs.r0 hs.r1 t.inv
  exact ⟨a.1, a.2, List.filter_sublist⟩
def sing (g : Pr) : RC := (g.1, [g.2])
def bk (L : List Int) (S : List Tn) (g : Pr) : RC := S.foldr (fun t σ => pre L σ t) (sing g)
theorem bk_cons (L : List Int) (t : Tn) (S : List Tn) (g : Pr) : bk L (t :: S) g = pre L (bk L S g) t := rfl
theorem sing_ok {L : List Int} {g : Pr} (hg : OkS L g) : OkR L (sing g) := ⟨hg.r0, hg.r1, by
  show [g.2].Sublist _
  rw [List.singleton_sublist]
  exact mem_rg.mpr ⟨hg.c0, hg.c1⟩⟩
theorem bk_ok {L : List Int} (h : OkL L) {g : Pr} (hg : OkS L g) : ∀ S : List Tn, OkR L (bk L S g)
  | [] => sing_ok hg
  | t :: S => pre_ok h (bk_ok h hg S) t
/-- a script leads a setting to g: the row is the row turned back, the column one of those turned back -/
theorem mem_bk {L : List Int} (h : OkL L) {g : Pr} (hg : OkS L g) : ∀ (S : List Tn) {s : Pr}, OkS L s → (S.foldl (aft L) s = g ↔ (bk L S g).1 = s.1 ∧ s.2 ∈ (bk L S g).2)
  | [], s, hs => by
    show s = g ↔ g.1 = s.1 ∧ s.2 ∈ [g.2]
    rw [List.mem_singleton]
    constructor
    · intro e; subst e; exact ⟨rfl, rfl⟩
    · rintro ⟨a, b⟩; exact Prod.ext a.symm b
  | t :: S, s, hs => by
    rw [List.foldl_cons, mem_bk h hg S (aft_ok h hs t), bk_cons, aft_row]
    have hb := bk_ok h hg S
    have e1 : ∀ r : Int, 0 ≤ r → r < L.length → nxr L (nxr L r t) t.inv = r := fun r a b => nxr_back h a b t
    have e2 : ∀ r : Int, 0 ≤ r → r < L.length → nxr L (nxr L r t.inv) t = r := fun r a b => by have := nxr_back h a b t.inv; rwa [inv_inv] at this
    show _ ↔ nxr L (bk L S g).1 t.inv = s.1 ∧ s.2 ∈ (rg (gL L (nxr L (bk L S g).1 t.inv))).filter fun c => decide ((aft L (nxr L (bk L S g).1 t.inv, c) t).2 ∈ (bk L S g).2)
    constructor
    · rintro ⟨a, b⟩
      have e3 : nxr L (bk L S g).1 t.inv = s.1 := by rw [a]; exact e1 _ hs.r0 hs.r1
      refine ⟨e3, ?_⟩
      rw [e3, List.mem_filter]
      exact ⟨mem_rg.mpr ⟨hs.c0, hs.c1⟩, by simpa using b⟩
    · rintro ⟨a, b⟩
      rw [a, List.mem_filter] at b
      refine ⟨?_, by simpa using b.2⟩
      rw [← a]; exact (e2 _ hb.r0 hb.r1).symm
/-- all columns of a row are led to g -/
def Gath (L : List Int) (row : Int) (cols : List Int) (S : List Tn) (g : Pr) : Prop := ∀ c ∈ cols, S.foldl (aft L) (row, c) = g
def Gth (L : List Int) (row : Int) (cols : List Int) (n : Nat) (g : Pr) : Prop := ∃ S : List Tn, S.length = n ∧ Gath L row cols S g
structure OkC (L : List Int) (row : Int) (cols : List Int) : Prop where
  r0 : 0 ≤ row
  r1 : row < L.length
  ne : cols ≠ []
  sub : cols.Sublist (rg (gL L row))
theorem OkC.at {L : List Int} {row : Int} {cols : List Int} (h : OkC L row cols) {c : Int} (hc : c ∈ cols) : OkS L (row, c) := by
  have := mem_rg.mp (h.sub.subset hc)
  exact ⟨h.r0, h.r1, this.1, this.2⟩
def mtch (row : Int) (cols : List Int) (σ : RC) : Bool := decide (σ.1 = row) && cols.all fun c => decide (c ∈ σ.2)
theorem mtch_iff {row : Int} {cols : List Int} {σ : RC} : mtch row cols σ = true ↔ σ.1 = row ∧ ∀ c ∈ cols, c ∈ σ.2 := by
  unfold mtch; simp [List.all_eq_true]
theorem gath_iff {L : List Int} (h : OkL L) {row : Int} {cols : List Int} (hc : OkC L row cols) {g : Pr} (hg : OkS L g) (S : List Tn) : Gath L row cols S g ↔ mtch row cols (bk L S g) = true := by
  rw [mtch_iff]
  constructor
  · intro k
    obtain ⟨c0, h0⟩ := List.exists_mem_of_ne_nil _ hc.ne
    exact ⟨((mem_bk h hg S (hc.at h0)).mp (k c0 h0)).1, fun c q => ((mem_bk h hg S (hc.at q)).mp (k c q)).2⟩
  · rintro ⟨a, b⟩ c q
    exact (mem_bk h hg S (hc.at q)).mpr ⟨a, b c q⟩
theorem mtch_live {row : Int} {cols : List Int} {σ : RC} (hn : cols ≠ []) (h : mtch row cols σ = true) : σ.2 ≠ [] := by
  obtain ⟨c0, h0⟩ := List.exists_mem_of_ne_nil _ hn
  exact List.ne_nil_of_mem ((mtch_iff.mp h).2 c0 h0)
/-- a live state comes from a live one -/
theorem live_of {L : List Int} {σ : RC} {t : Tn} (h : (pre L σ t).2 ≠ []) : σ.2 ≠ [] := fun e => h (by
  show List.filter _ _ = []
  rw [e]; simp)

/-! ### the levels of jobs -/
abbrev Job := RC × (List Tn × List Pr)
def addG (L : List Int) (seen : List RC) (acc : List Job) (p : Job × Tn) : List Job :=
  if (pre L p.1.1 p.2).2 ≠ [] ∧ pre L p.1.1 p.2 ∉ seen then
    aput acc (pre L p.1.1 p.2) (((aget acc (pre L p.1.1 p.2)).getD (p.2 :: p.1.2.1, [])).1, ((aget acc (pre L p.1.1 p.2)).getD (p.2 :: p.1.2.1, [])).2 ++ p.1.2.2.filter fun g => !decide (g ∈ ((aget acc (pre L p.1.1 p.2)).getD (p.2 :: p.1.2.1, [])).2))
  else acc
def prs4 (level : List Job) : List (Job × Tn) := level.flatMap fun j => allT.map fun t => (j, t)
def nextG (L : List Int) (seen : List RC) (level : List Job) : List Job := (prs4 level).foldl (addG L seen) []
structure GAcc (L : List Int) (seen : List RC) (Pd : List (Job × Tn)) (acc : List Job) : Prop where
  nd : (acc.map (·.1)).Nodup
  key : ∀ o, o ∈ acc.map (·.1) ↔ (o.2 ≠ [] ∧ o ∉ seen) ∧ ∃ p ∈ Pd, pre L p.1.1 p.2 = o
  sc : ∀ o S G, aget acc o = some (S, G) → (∃ p ∈ Pd, pre L p.1.1 p.2 = o ∧ S = p.2 :: p.1.2.1) ∧ G.Nodup ∧ ∀ g, g ∈ G ↔ ∃ p ∈ Pd, pre L p.1.1 p.2 = o ∧ g ∈ p.1.2.2
theorem GAcc.add {L : List Int} {seen : List RC} {Pd : List (Job × Tn)} {acc : List Job} (h : GAcc L seen Pd acc) {p : Job × Tn} (hn : p.1.2.2.Nodup) : GAcc L seen (Pd ++ [p]) (addG L seen acc p) := by
  have ex : ∀ {Q : Job × Tn → Prop}, (∃ q ∈ Pd ++ [p], Q q) ↔ (∃ q ∈ Pd, Q q) ∨ Q p := by
    intro Q
    constructor
    · rintro ⟨q, hq, k⟩
      rcases List.mem_append.mp hq with hq | hq
      · exact .inl ⟨q, hq, k⟩
      · rw [List.mem_singleton] at hq; subst hq; exact .inr k
    · rintro (⟨q, hq, k⟩ | k)
      · exact ⟨q, List.mem_append_left _ hq, k⟩
      · exact ⟨p, List.mem_append_right _ (List.mem_singleton.mpr rfl), k⟩
  unfold addG
  by_cases c : (pre L p.1.1 p.2).2 ≠ [] ∧ pre L p.1.1 p.2 ∉ seen
  · rw [if_pos c]
    have old : ∃ S0 G0, (aget acc (pre L p.1.1 p.2)).getD (p.2 :: p.1.2.1, []) = (S0, G0) ∧ (∃ q ∈ Pd ++ [p], pre L q.1.1 q.2 = pre L p.1.1 p.2 ∧ S0 = q.2 :: q.1.2.1) ∧ G0.Nodup ∧ ∀ g, g ∈ G0 ↔ ∃ q ∈ Pd, pre L q.1.1 q.2 = pre L p.1.1 p.2 ∧ g ∈ q.1.2.2 := by
      cases e : aget acc (pre L p.1.1 p.2) with
      | some v =>
        obtain ⟨S0, G0⟩ := v
        obtain ⟨a, b, d⟩ := h.sc _ _ _ e
        exact ⟨S0, G0, rfl, ex.mpr (.inl a), b, d⟩
      | none =>
        refine ⟨_, _, rfl, ex.mpr (.inr ⟨rfl, rfl⟩), List.nodup_nil, fun g => ⟨fun q => absurd q List.not_mem_nil, fun ⟨q, hq, e2, _⟩ => ?_⟩⟩
        exact absurd ((h.key _).mpr ⟨c, q, hq, e2⟩) (aget_none.mp e)
    obtain ⟨S0, G0, e0, hS, hG, hm⟩ := old
    rw [e0]
    refine ⟨aput_nodup h.nd, fun o => ?_, fun o S G e => ?_⟩
    · rw [mem_aput, h.key, ex]
      constructor
      · rintro (⟨a, b⟩ | a)
        · exact ⟨a, .inl b⟩
        · subst a; exact ⟨c, .inr rfl⟩
      · rintro ⟨a, b | b⟩
        · exact .inl ⟨a, b⟩
        · exact .inr b.symm
    · rw [aget_aput] at e
      by_cases eo : pre L p.1.1 p.2 = o
      · rw [if_pos eo] at e
        cases e
        subst eo
        refine ⟨hS, ?_, fun g => ?_⟩
        · rw [List.nodup_append]
          refine ⟨hG, hn.filter _, fun a ha b hb q => ?_⟩
          subst q
          have := (List.mem_filter.mp hb).2
          simp [ha] at this
        · rw [List.mem_append, List.mem_filter, ex]
          constructor
          · rintro (a | ⟨a, _⟩)
            · exact .inl ((hm g).mp a)
            · exact .inr ⟨rfl, a⟩
          · rintro (a | ⟨_, a⟩)
            · exact .inl ((hm g).mpr a)
            · by_cases q : g ∈ G0
              · exact .inl q
              · exact .inr ⟨a, by simp [q]⟩
      · rw [if_neg eo] at e
        obtain ⟨a, b, d⟩ := h.sc _ _ _ e
        refine ⟨ex.mpr (.inl a), b, fun g => ?_⟩
        rw [d, ex]
        exact ⟨.inl, fun q => q.elim id fun q => absurd q.1 eo⟩
  · rw [if_neg c]
    have no : ∀ o, o.2 ≠ [] ∧ o ∉ seen → pre L p.1.1 p.2 ≠ o := fun o ho e => c (by rw [e]; exact ho)
    refine ⟨h.nd, fun o => ?_, fun o S G e => ?_⟩
    · rw [h.key, ex]
      exact ⟨fun ⟨a, b⟩ => ⟨a, .inl b⟩, fun ⟨a, b⟩ => ⟨a, b.elim id fun q => absurd q (no o a)⟩⟩
    · obtain ⟨a, b, d⟩ := h.sc _ _ _ e
      have ho := ((h.key o).mp (aget_mem.mp (by rw [e]; rfl))).1
      refine ⟨ex.mpr (.inl a), b, fun g => ?_⟩
      rw [d, ex]
      exact ⟨.inl, fun q => q.elim id fun q => absurd q.1 (no o ho)⟩
theorem GAcc.all {L : List Int} {seen : List RC} : ∀ (ps : List (Job × Tn)) {Pd : List (Job × Tn)} {acc : List Job}, GAcc L seen Pd acc → (∀ p ∈ ps, p.1.2.2.Nodup) → GAcc L seen (Pd ++ ps) (ps.foldl (addG L seen) acc)
  | [], Pd, acc, h, _ => by rw [List.append_nil]; exact h
  | p :: r, Pd, acc, h, hn => by
    have := GAcc.all r (h.add (hn p List.mem_cons_self)) fun q hq => hn q (List.mem_cons_of_mem _ hq)
    rw [List.append_assoc] at this
    exact this
theorem mem_prs4 {level : List Job} {p : Job × Tn} : p ∈ prs4 level ↔ p.1 ∈ level := by
  unfold prs4
  rw [List.mem_flatMap]
  constructor
  · rintro ⟨j, hj, hp⟩
    obtain ⟨t, _, rfl⟩ := List.mem_map.mp hp
    exact hj
  · intro h
    exact ⟨p.1, h, List.mem_map.mpr ⟨p.2, mem_allT _, rfl⟩⟩
theorem nextG_ok (L : List Int) (seen : List RC) (level : List Job) (hn : ∀ j ∈ level, j.2.2.Nodup) : GAcc L seen (prs4 level) (nextG L seen level) :=
  GAcc.all (prs4 level) (Pd := []) ⟨List.nodup_nil, fun o => ⟨fun h => absurd h List.not_mem_nil, fun ⟨_, p, hp, _⟩ => absurd hp List.not_mem_nil⟩, fun o S G e => by cases e⟩ fun p hp => hn _ (mem_prs4.mp hp)

def RB (L : List Int) (k : Nat) (g : Pr) (σ : RC) : Prop := ∃ S : List Tn, S.length = k ∧ bk L S g = σ
theorem RB.succ {L : List Int} {k : Nat} {g : Pr} {σ : RC} (h : RB L k g σ) (t : Tn) : RB L (k + 1) g (pre L σ t) := by
  obtain ⟨S, rfl, rfl⟩ := h
  exact ⟨t :: S, rfl, rfl⟩
theorem RB.pred {L : List Int} {k : Nat} {g : Pr} {σ : RC} (h : RB L (k + 1) g σ) : ∃ t τ, RB L k g τ ∧ pre L τ t = σ := by
  obtain ⟨S, hl, rfl⟩ := h
  cases S with
  | nil => simp at hl
  | cons t S => exact ⟨t, bk L S g, ⟨S, by simpa using hl, rfl⟩, rfl⟩
theorem RB.ok {L : List Int} (h : OkL L) {g : Pr} (hg : OkS L g) {k : Nat} {σ : RC} (r : RB L k g σ) : OkR L σ := by
  obtain ⟨S, _, rfl⟩ := r
  exact bk_ok h hg S
/-- what a level of jobs is -/
structure LevG (L : List Int) (gs : List Pr) (k : Nat) (seen : List RC) (level : List Job) : Prop where
  nd : (level.map (·.1)).Nodup
  key : ∀ σ, σ ∈ level.map (·.1) ↔ σ.2 ≠ [] ∧ (∃ g ∈ gs, RB L k g σ) ∧ ∀ j, j < k → ∀ g ∈ gs, ¬ RB L j g σ
  job : ∀ j ∈ level, j.2.1.length = k ∧ (∃ g ∈ gs, bk L j.2.1 g = j.1) ∧ j.2.2.Nodup ∧ ∀ g, g ∈ j.2.2 ↔ g ∈ gs ∧ RB L k g j.1
  sn : ∀ σ, σ ∈ seen ↔ σ.2 ≠ [] ∧ ∃ j, j < k ∧ ∃ g ∈ gs, RB L j g σ
  nds : seen.Nodup
/-- what is seen once the level is marked -/
theorem LevG.marked {L : List Int} {gs : List Pr} {k : Nat} {seen : List RC} {level : List Job} (h : LevG L gs k seen level) (σ : RC) : σ ∈ seen ++ level.map (·.1) ↔ σ.2 ≠ [] ∧ ∃ j, j < k + 1 ∧ ∃ g ∈ gs, RB L j g σ := by
  rw [List.mem_append, h.sn, h.key]
  constructor
  · rintro (⟨a, j, hj, q⟩ | ⟨a, q, _⟩)
    · exact ⟨a, j, by omega, q⟩
    · exact ⟨a, k, by omega, q⟩
  · rintro ⟨a, j, hj, q⟩
    by_cases c : ∃ j, j < k ∧ ∃ g ∈ gs, RB L j g σ
    · exact .inl ⟨a, c⟩
    · refine .inr ⟨a, ?_, fun i hi g hg r => c ⟨i, hi, g, hg, r⟩⟩
      have : j = k := by
        refine Nat.le_antisymm (by omega) (Nat.le_of_not_lt fun hlt => c ⟨j, hlt, q⟩)
      rw [← this]; exact q
theorem LevG.ndm {L : List Int} {gs : List Pr} {k : Nat} {seen : List RC} {level : List Job} (h : LevG L gs k seen level) : (seen ++ level.map (·.1)).Nodup := by
  rw [List.nodup_append]
  refine ⟨h.nds, h.nd, fun a ha b hb e => ?_⟩
  subst e
  obtain ⟨_, j, hj, g, hg, r⟩ := (h.sn a).mp ha
  exact ((h.key a).mp hb).2.2 j hj g hg r
theorem LevG.next {L : List Int} {gs : List Pr} {k : Nat} {seen : List RC} {level : List Job} (h : LevG L gs k seen level) : LevG L gs (k + 1) (seen ++ level.map (·.1)) (nextG L (seen ++ level.map (·.1)) level) := by
  have A := nextG_ok L (seen ++ level.map (·.1)) level fun j hj => (h.job j hj).2.2.1
  have un : ∀ {o : RC}, o.2 ≠ [] → o ∉ seen ++ level.map (·.1) → ∀ j, j < k + 1 → ∀ g ∈ gs, ¬ RB L j g o := fun a b j hj g hg r => b ((h.marked _).mpr ⟨a, j, hj, g, hg, r⟩)
  -- the step behind a new state lies in the level
  have prv : ∀ {o : RC}, o.2 ≠ [] → o ∉ seen ++ level.map (·.1) → ∀ g ∈ gs, RB L (k + 1) g o → ∃ p ∈ prs4 level, pre L p.1.1 p.2 = o ∧ g ∈ p.1.2.2 := by
    intro o a b g hg r
    obtain ⟨t, τ, r1, rfl⟩ := r.pred
    have ht : τ ∈ level.map (·.1) := (h.key τ).mpr ⟨live_of a, ⟨g, hg, r1⟩, fun j hj g' hg' r' => un a b (j + 1) (by omega) g' hg' (r'.succ t)⟩
    obtain ⟨j, hj, rfl⟩ := List.mem_map.mp ht
    exact ⟨(j, t), mem_prs4.mpr hj, rfl, ((h.job j hj).2.2.2 g).mpr ⟨hg, r1⟩⟩
  refine ⟨A.nd, fun o => ?_, fun j hj => ?_, fun σ => h.marked σ, h.ndm⟩
  · rw [A.key]
    constructor
    · rintro ⟨⟨a, b⟩, p, hp, rfl⟩
      refine ⟨a, ?_, fun j hj g hg => un a b j hj g hg⟩
      obtain ⟨_, ⟨g, hg, e⟩, _⟩ := h.job p.1 (mem_prs4.mp hp)
      have hk := (h.job p.1 (mem_prs4.mp hp)).1
      exact ⟨g, hg, RB.succ ⟨p.1.2.1, hk, e⟩ p.2⟩
    · rintro ⟨a, ⟨g, hg, r⟩, n⟩
      have b : o ∉ seen ++ level.map (·.1) := fun q => by
        obtain ⟨_, j, hj, g', hg', r'⟩ := (h.marked o).mp q
        exact n j hj g' hg' r'
      obtain ⟨p, hp, e, _⟩ := prv a b g hg r
      exact ⟨⟨a, b⟩, p, hp, e⟩
  · obtain ⟨o, S, G⟩ := j
    have e := aget_of A.nd hj
    obtain ⟨⟨p, hp, e1, e2⟩, nd, hm⟩ := A.sc _ _ _ e
    obtain ⟨a, b⟩ := ((A.key o).mp (List.mem_map.mpr ⟨_, hj, rfl⟩)).1
    obtain ⟨hk, ⟨g, hg, e3⟩, _⟩ := h.job p.1 (mem_prs4.mp hp)
    refine ⟨by show S.length = k + 1; rw [e2]; simp [hk], ⟨g, hg, ?_⟩, nd, fun g' => ?_⟩
    · show bk L S g = o
      rw [e2, bk_cons, e3, e1]
    · show g' ∈ G ↔ _
      rw [hm]
      constructor
      · rintro ⟨q, hq, e4, hg'⟩
        have := ((h.job q.1 (mem_prs4.mp hq)).2.2.2 g').mp hg'
        exact ⟨this.1, by rw [← e4]; exact this.2.succ q.2⟩
      · rintro ⟨hg', r⟩
        exact prv a b g' hg' r
theorem LevG.start {L : List Int} {gs : List Pr} (hn : gs.Nodup) : LevG L gs 0 [] (gs.map fun g => (sing g, ([], [g]))) := by
  have sj : ∀ {g g' : Pr}, sing g = sing g' → g = g' := fun {g g'} e => by
    unfold sing at e
    simp only [Prod.mk.injEq, List.cons.injEq, and_true] at e
    exact Prod.ext e.1 e.2
  have r0 : ∀ {g : Pr} {σ : RC}, RB L 0 g σ ↔ sing g = σ := fun {g σ} => by
    constructor
    · rintro ⟨S, hl, rfl⟩
      obtain rfl := List.length_eq_zero_iff.mp hl
      rfl
    · intro e; exact ⟨[], rfl, e⟩
  have mk : (gs.map fun g => ((sing g, ([], [g])) : Job)).map (·.1) = gs.map sing := by rw [List.map_map]; rfl
  refine ⟨?_, fun σ => ?_, fun j hj => ?_, fun σ => ⟨fun q => absurd q List.not_mem_nil, fun ⟨_, j, hj, _⟩ => absurd hj (Nat.not_lt_zero j)⟩, List.nodup_nil⟩
  · rw [mk]
    exact hn.map _ (fun a b hab e => hab (sj e))
  · rw [mk, List.mem_map]
    constructor
    · rintro ⟨g, hg, rfl⟩
      exact ⟨by simp [sing], ⟨g, hg, r0.mpr rfl⟩, fun j hj => absurd hj (Nat.not_lt_zero j)⟩
    · rintro ⟨_, ⟨g, hg, r⟩, _⟩
      exact ⟨g, hg, r0.mp r⟩
  · obtain ⟨g, hg, rfl⟩ := List.mem_map.mp hj
    refine ⟨rfl, ⟨g, hg, rfl⟩, by simp, fun g' => ?_⟩
    show g' ∈ [g] ↔ _
    rw [List.mem_singleton, r0]
    constructor
    · rintro rfl; exact ⟨hg, rfl⟩
    · rintro ⟨_, e⟩; exact sj e
/-- behind an empty level nothing is new -/
theorem LevG.done {L : List Int} {gs : List Pr} {k : Nat} {seen : List RC} (h : LevG L gs k seen []) {g : Pr} (hg : g ∈ gs) : ∀ (S : List Tn), (bk L S g).2 ≠ [] → bk L S g ∈ seen
  | [], hl => by
    have a := (h.marked (bk L [] g))
    rw [List.map_nil, List.append_nil] at a
    refine a.mpr ⟨hl, 0, by omega, g, hg, [], rfl, rfl⟩
  | t :: S, hl => by
    have a := (h.marked (bk L (t :: S) g))
    rw [List.map_nil, List.append_nil] at a
    have ih := LevG.done h hg S (live_of hl)
    obtain ⟨_, j, hj, g', hg', r⟩ := (h.sn _).mp ih
    exact a.mpr ⟨hl, j + 1, by omega, g', hg', r.succ t⟩

/-! ### all rows with columns -/
def subs : List Int → List (List Int)
  | [] => [[]]
  | x :: r => subs r ++ (subs r).map fun y => x :: y
theorem mem_subs : ∀ {xs ys : List Int}, ys.Sublist xs → ys ∈ subs xs
  | [], ys, h => by rw [List.sublist_nil.mp h]; exact List.mem_singleton.mpr rfl
  | x :: r, ys, h => by
    unfold subs
    cases h with
    | cons _ h => exact List.mem_append_left _ (mem_subs h)
    | cons_cons _ h => exact List.mem_append_right _ (List.mem_map.mpr ⟨_, mem_subs h, rfl⟩)
theorem subs_len : ∀ xs : List Int, (subs xs).length = 2 ^ xs.length
  | [] => rfl
  | x :: r => by
    unfold subs
    rw [List.length_append, List.length_map, subs_len r, List.length_cons, Nat.pow_succ]; omega
def allR (L : List Int) : List RC := (enF 0 L).flatMap fun p => (subs (rg p.2)).map fun ys => (p.1, ys)
theorem mem_allR {L : List Int} {σ : RC} (h : OkR L σ) : σ ∈ allR L := by
  unfold allR
  rw [List.mem_flatMap]
  have r0 := h.r0
  have e := enF_of 0 L σ.1.toNat _ (gL_at h.r0 h.r1)
  rw [show ((0 + σ.1.toNat : Nat) : Int) = σ.1 by omega] at e
  exact ⟨_, e, List.mem_map.mpr ⟨σ.2, mem_subs h.sub, rfl⟩⟩
theorem allR_len (m : Nat) : ∀ (L : List Int) (k : Nat), (∀ x ∈ L, x ≤ m) → ((enF k L).flatMap fun p => (subs (rg p.2)).map fun ys => ((p.1, ys) : RC)).length ≤ L.length * 2 ^ m
  | [], k, _ => by simp [enF]
  | x :: r, k, h => by
    have a := h x List.mem_cons_self
    have b := allR_len m r (k + 1) fun y hy => h y (List.mem_cons_of_mem _ hy)
    unfold enF
    rw [List.flatMap_cons, List.length_append, List.length_map, subs_len, rg_length, List.length_cons]
    simp only
    have c : 2 ^ x.toNat ≤ 2 ^ m := Nat.pow_le_pow_right (by decide) (by omega)
    rw [Nat.add_mul, Nat.one_mul]
    omega

/-! ### what the search answers -/
structure GthOk (L : List Int) (row : Int) (cols : List Int) (gs : List Pr) (S : List Tn) (R : List Pr) : Prop where
  sc : ∃ g ∈ gs, Gath L row cols S g
  min : ∀ j, j < S.length → ∀ g ∈ gs, ¬ Gth L row cols j g
  srt : R.Pairwise fun a b => SrtO.lexB a b = true
  mem : ∀ g, g ∈ R ↔ g ∈ gs ∧ Gth L row cols S.length g
def NoGth (L : List Int) (row : Int) (cols : List Int) (gs : List Pr) : Prop := ∀ n, ∀ g ∈ gs, ¬ Gth L row cols n g
def hitsM (row : Int) (cols : List Int) (level : List Job) : List Job := level.filter fun j => mtch row cols j.1
theorem gth_rb {L : List Int} (h : OkL L) {row : Int} {cols : List Int} (hc : OkC L row cols) {g : Pr} (hg : OkS L g) {n : Nat} : Gth L row cols n g ↔ ∃ σ, mtch row cols σ = true ∧ RB L n g σ := by
  constructor
  · rintro ⟨S, hl, k⟩
    exact ⟨_, (gath_iff h hc hg S).mp k, S, hl, rfl⟩
  · rintro ⟨σ, m, S, hl, rfl⟩
    exact ⟨S, hl, (gath_iff h hc hg S).mpr m⟩
section
variable {L : List Int} {row : Int} {cols : List Int} {gs : List Pr} {k : Nat} {seen : List RC} {level : List Job}
theorem gth_none (h : OkL L) (hc : OkC L row cols) (hg : ∀ g ∈ gs, OkS L g) (lv : LevG L gs k seen []) (hm : ∀ σ ∈ seen, mtch row cols σ = false) : NoGth L row cols gs := fun n g q r => by
  obtain ⟨σ, m, S, _, rfl⟩ := (gth_rb h hc (hg g q)).mp r
  have := hm _ (lv.done q S (mtch_live hc.ne m))
  rw [m] at this; cases this
theorem gth_less (h : OkL L) (hc : OkC L row cols) (hg : ∀ g ∈ gs, OkS L g) (lv : LevG L gs k seen level) (hm : ∀ σ ∈ seen, mtch row cols σ = false) : ∀ j, j < k → ∀ g ∈ gs, ¬ Gth L row cols j g := fun j hj g q r => by
  obtain ⟨σ, m, r⟩ := (gth_rb h hc (hg g q)).mp r
  have := hm σ ((lv.sn σ).mpr ⟨mtch_live hc.ne m, j, hj, g, q, r⟩)
  rw [m] at this; cases this
theorem gth_hit (h : OkL L) (hc : OkC L row cols) (hg : ∀ g ∈ gs, OkS L g) (lv : LevG L gs k seen level) (hm : ∀ σ ∈ seen, mtch row cols σ = false) {j : Job} {r : List Job} (hh : hitsM row cols level = j :: r) {R : List Pr} (hs : R.Pairwise fun a b => SrtO.lexB a b = true) (hR : ∀ g, g ∈ R ↔ g ∈ (hitsM row cols level).flatMap (·.2.2)) : GthOk L row cols gs j.2.1 R := by
  have hj : j ∈ hitsM row cols level := by rw [hh]; exact List.mem_cons_self
  obtain ⟨hj, mj⟩ := List.mem_filter.mp hj
  obtain ⟨e1, ⟨g, q, e2⟩, _⟩ := lv.job j hj
  refine ⟨⟨g, q, ?_⟩, by rw [e1]; exact gth_less h hc hg lv hm, hs, fun g' => ?_⟩
  · rw [gath_iff h hc (hg g q), e2]; exact mj
  · rw [hR, List.mem_flatMap, e1]
    constructor
    · rintro ⟨i, hi, hgi⟩
      obtain ⟨hi, mi⟩ := List.mem_filter.mp hi
      obtain ⟨q', r'⟩ := ((lv.job i hi).2.2.2 g').mp hgi
      exact ⟨q', (gth_rb h hc (hg g' q')).mpr ⟨_, mi, r'⟩⟩
    · rintro ⟨q', r'⟩
      obtain ⟨σ, m, rb⟩ := (gth_rb h hc (hg g' q')).mp r'
      have hσ : σ ∈ level.map (·.1) := (lv.key σ).mpr ⟨mtch_live hc.ne m, ⟨g', q', rb⟩, fun i hi g2 q2 r2 => by
        have := hm σ ((lv.sn σ).mpr ⟨mtch_live hc.ne m, i, hi, g2, q2, r2⟩)
        rw [m] at this; cases this⟩
      obtain ⟨i, hi, rfl⟩ := List.mem_map.mp hσ
      exact ⟨i, List.mem_filter.mpr ⟨hi, m⟩, ((lv.job i hi).2.2.2 g').mpr ⟨q', rb⟩⟩
theorem mtch_next (lv : LevG L gs k seen level) (hm : ∀ σ ∈ seen, mtch row cols σ = false) (hh : hitsM row cols level = []) : ∀ σ ∈ seen ++ level.map (·.1), mtch row cols σ = false := fun σ hσ => by
  rcases List.mem_append.mp hσ with q | q
  · exact hm σ q
  · obtain ⟨j, hj, rfl⟩ := List.mem_map.mp q
    cases e : mtch row cols j.1 with
    | false => rfl
    | true =>
      have : j ∈ hitsM row cols level := List.mem_filter.mpr ⟨hj, e⟩
      rw [hh] at this
      cases this
theorem lev_sub (h : OkL L) (hg : ∀ g ∈ gs, OkS L g) (lv : LevG L gs k seen level) : ∀ σ ∈ seen ++ level.map (·.1), σ ∈ allR L := fun σ hσ => by
  obtain ⟨_, _, _, g, q, r⟩ := (lv.marked σ).mp hσ
  exact mem_allR (r.ok h (hg g q))
end
end Fx

namespace Fx
open PySem PySem.Spec L2
open PyProof.Rows hiding St

/-! ### the least number -/
theorem least_ex {P : Nat → Prop} {n : Nat} (h : P n) : ∃ m, P m ∧ ∀ j, j < m → ¬ P j := by
  classical
  induction n using Nat.strongRecOn with
  | ind n ih =>
    by_cases q : ∃ m, m < n ∧ P m
    · obtain ⟨m, hm, hp⟩ := q
      exact ih m hm hp
    · exact ⟨n, h, fun j hj hp => q ⟨j, hj, hp⟩⟩
open Classical in
noncomputable def least (P : Nat → Prop) : Option Nat := if h : ∃ m, P m ∧ ∀ j, j < m → ¬ P j then some (Classical.choose h) else none
theorem least_of {P : Nat → Prop} {n : Nat} (h : P n) (k : ∀ j, j < n → ¬ P j) : least P = some n := by
  have hx : ∃ m, P m ∧ ∀ j, j < m → ¬ P j := ⟨n, h, k⟩
  unfold least
  rw [dif_pos hx]
  have s := Classical.choose_spec hx
  congr 1
  rcases Nat.lt_trichotomy (Classical.choose hx) n with q | q | q
  · exact absurd s.1 (k _ q)
  · exact q
  · exact absurd h (s.2 _ q)
theorem least_none {P : Nat → Prop} (h : ∀ n, ¬ P n) : least P = none := by
  unfold least
  rw [dif_neg]
  rintro ⟨m, hm, _⟩
  exact h m hm
theorem least_some {P : Nat → Prop} {n : Nat} (h : least P = some n) : P n ∧ ∀ j, j < n → ¬ P j := by
  unfold least at h
  split at h
  · rename_i hx
    cases h
    exact Classical.choose_spec hx
  · cases h
theorem least_no {P : Nat → Prop} (h : least P = none) : ∀ n, ¬ P n := fun n hp => by
  obtain ⟨m, h1, h2⟩ := least_ex hp
  rw [least_of h1 h2] at h
  cases h
theorem least_congr {P Q : Nat → Prop} (h : ∀ n, P n ↔ Q n) : least P = least Q := by
  have : P = Q := funext fun n => propext (h n)
  rw [this]
theorem least_cases {P : Nat → Prop} : (least P = none ∧ ∀ n, ¬ P n) ∨ ∃ n, least P = some n ∧ P n ∧ ∀ j, j < n → ¬ P j := by
  cases h : least P with
  | none => exact .inl ⟨rfl, least_no h⟩
  | some n => exact .inr ⟨n, rfl, least_some h⟩
/-! ### the numbers of blind turning -/
noncomputable def nuB (L : List Int) (row : Int) (cols : List Int) (g : Pr) : Option Nat := least fun n => Gth L row cols n g
noncomputable def nuK (L : List Int) (row : Int) : Option Nat := least fun n => ∃ g ∈ setsM L, Gth L row (rg (gL L row)) n g
open Classical in
noncomputable def atM (L : List Int) (row : Int) : List Pr := match nuK L row with
  | none => []
  | some n => usort SrtO.lexB ((setsM L).filter fun g => decide (Gth L row (rg (gL L row)) n g))
theorem mem_atM {L : List Int} {row : Int} {n : Nat} (h : nuK L row = some n) (g : Pr) : g ∈ atM L row ↔ g ∈ setsM L ∧ Gth L row (rg (gL L row)) n g := by
  unfold atM
  rw [h]
  simp only [mem_usort, List.mem_filter, decide_eq_true_eq]
theorem atM_sorted (L : List Int) (row : Int) : (atM L row).Pairwise fun a b => SrtO.lexB a b = true := by
  unfold atM
  cases nuK L row with
  | none => exact .nil
  | some n => exact usort_sorted lin_pr _
theorem gthOk_num {L : List Int} {row : Int} {cols : List Int} {gs : List Pr} {S : List Tn} {R : List Pr} (h : GthOk L row cols gs S R) : least (fun n => ∃ g ∈ gs, Gth L row cols n g) = some S.length := by
  obtain ⟨g, hg, k⟩ := h.sc
  exact least_of ⟨g, hg, S, rfl, k⟩ fun j hj ⟨g', hg', r⟩ => h.min j hj g' hg' r
theorem noGth_num {L : List Int} {row : Int} {cols : List Int} {gs : List Pr} (h : NoGth L row cols gs) : least (fun n => ∃ g ∈ gs, Gth L row cols n g) = none := least_none fun n ⟨g, hg, r⟩ => h n g hg r
theorem nuB_gs (L : List Int) (row : Int) (cols : List Int) (g : Pr) : nuB L row cols g = least fun n => ∃ g' ∈ [g], Gth L row cols n g' := least_congr fun n => by simp
/-! ### how many states a level's hits are -/
theorem rg_nodup (n : Int) : (rg n).Nodup := by
  unfold rg
  exact (List.nodup_range).map _ fun a b hab e => hab (Int.ofNat.inj e)
theorem rg_sorted (n : Int) : (rg n).Pairwise fun a b => ltI a b = true := by
  unfold rg
  rw [List.pairwise_map]
  exact (List.pairwise_lt_range).imp fun {a b} h => by unfold ltI; simp; omega
theorem enF_keys {α : Type} : ∀ (k : Nat) (xs : List α), ((enF k xs).map (·.1)) = (List.range' k xs.length).map fun (i : Nat) => (i : Int)
  | _, [] => rfl
  | k, x :: r => by unfold enF; rw [List.map_cons, enF_keys (k + 1) r, List.length_cons, List.range'_succ, List.map_cons]
theorem setsM_nodup (L : List Int) : (setsM L).Nodup := by
  have go : ∀ (xs : List Int) (k : Nat), ((enF k xs).flatMap fun p => (rg p.2).map fun c => ((p.1, c) : Pr)).Nodup ∧ ∀ q ∈ ((enF k xs).flatMap fun p => (rg p.2).map fun c => ((p.1, c) : Pr)), (k : Int) ≤ q.1 := by
    intro xs
    induction xs with
    | nil => intro k; exact ⟨by simp [enF], fun q hq => by simp [enF] at hq⟩
    | cons x r ih =>
      intro k
      obtain ⟨n1, n2⟩ := ih (k + 1)
      unfold enF
      rw [List.flatMap_cons]
      refine ⟨?_, fun q hq => ?_⟩
      · rw [List.nodup_append]
        refine ⟨(rg_nodup x).map _ fun a b hab e => hab (by simpa using e), n1, fun a ha b hb e => ?_⟩
        obtain ⟨c, _, rfl⟩ := List.mem_map.mp ha
        have := n2 b hb
        rw [← e] at this
        simp only at this
        omega
      · rcases List.mem_append.mp hq with h | h
        · obtain ⟨c, _, rfl⟩ := List.mem_map.mp h
          exact Int.le_refl _
        · have := n2 q h
          omega
  exact (go L 0).1
theorem okC_full {L : List Int} (h : OkL L) {row : Int} (r0 : 0 ≤ row) (r1 : row < L.length) : OkC L row (rg (gL L row)) := by
  have a := h.at r0 r1
  refine ⟨r0, r1, ?_, List.Sublist.refl _⟩
  obtain ⟨t, e⟩ := rg_pos (n := gL L row) a.1
  rw [e]; simp
section
variable {L : List Int} {row : Int} {cols : List Int} {gs : List Pr} {k : Nat} {seen : List RC} {level : List Job}
theorem hits_ok (h : OkL L) (hg : ∀ g ∈ gs, OkS L g) (lv : LevG L gs k seen level) : ∀ j ∈ hitsM row cols level, OkR L j.1 ∧ mtch row cols j.1 = true ∧ j.2.2.Nodup ∧ ∀ g ∈ j.2.2, g ∈ gs := fun j hj => by
  obtain ⟨hj, m⟩ := List.mem_filter.mp hj
  obtain ⟨_, ⟨g, q, e⟩, nd, hm⟩ := lv.job j hj
  exact ⟨by rw [← e]; exact bk_ok h (hg g q) _, m, nd, fun g hg' => ((hm g).mp hg').1⟩
theorem hits_nodup (lv : LevG L gs k seen level) : ((hitsM row cols level).map (·.1)).Nodup := by
  have := lv.nd
  exact this.sublist (List.Sublist.map _ List.filter_sublist)
theorem flat_le {α β : Type} (f : α → List β) (n : Nat) : ∀ xs : List α, (∀ x ∈ xs, (f x).length ≤ n) → (xs.flatMap f).length ≤ xs.length * n
  | [], _ => by simp
  | x :: r, h => by
    have a := h x List.mem_cons_self
    have b := flat_le f n r fun y hy => h y (List.mem_cons_of_mem _ hy)
    rw [List.flatMap_cons, List.length_append, List.length_cons, Nat.add_mul, Nat.one_mul]; omega
theorem reach_le' (h : OkL L) (hg : ∀ g ∈ gs, OkS L g) (lv : LevG L gs k seen level) : ((hitsM row cols level).flatMap (·.2.2)).length ≤ (hitsM row cols level).length * gs.length :=
  flat_le _ _ _ fun j hj => by
    obtain ⟨_, _, nd, hs⟩ := hits_ok h hg lv j hj
    exact nodup_sub nd hs
theorem hits_full (h : OkL L) (hg : ∀ g ∈ gs, OkS L g) (lv : LevG L gs k seen level) : (hitsM row (rg (gL L row)) level).length ≤ 1 := by
  have nd := hits_nodup (row := row) (cols := rg (gL L row)) lv
  have := nodup_sub nd (U := [(row, rg (gL L row))]) fun σ hσ => by
    obtain ⟨j, hj, rfl⟩ := List.mem_map.mp hσ
    obtain ⟨o, m, _⟩ := hits_ok h hg lv j hj
    obtain ⟨m1, m2⟩ := mtch_iff.mp m
    rw [List.mem_singleton]
    have e : j.1.2 = rg (gL L row) := by
      have s := o.sub
      rw [m1] at s
      refine s.eq_of_length_le ?_
      exact nodup_sub (rg_nodup _) m2
    exact Prod.ext m1 e
  rw [List.length_map] at this
  exact this
theorem hits_small (h : OkL L) (hg : ∀ g ∈ gs, OkS L g) (hc : cols ≠ []) (lv : LevG L gs k seen level) : (hitsM row cols level).length + 1 ≤ 2 ^ (gL L row).toNat := by
  have nd := hits_nodup (row := row) (cols := cols) lv
  have live : ∀ j ∈ hitsM row cols level, j.1.2 ≠ [] := fun j hj => mtch_live hc (hits_ok h hg lv j hj).2.1
  have := nodup_sub (l := ((row, []) : RC) :: (hitsM row cols level).map (·.1)) (U := (subs (rg (gL L row))).map fun ys => ((row, ys) : RC)) (List.nodup_cons.mpr ⟨fun hm => by
      obtain ⟨j, hj, e⟩ := List.mem_map.mp hm
      exact live j hj (by rw [e]), nd⟩) fun σ hσ => by
    rcases List.mem_cons.mp hσ with rfl | hσ
    · exact List.mem_map.mpr ⟨[], mem_subs (List.nil_sublist _), rfl⟩
    · obtain ⟨j, hj, rfl⟩ := List.mem_map.mp hσ
      obtain ⟨o, m, _⟩ := hits_ok h hg lv j hj
      obtain ⟨m1, m2⟩ := mtch_iff.mp m
      have s := o.sub
      rw [m1] at s
      exact List.mem_map.mpr ⟨j.1.2, mem_subs s, Prod.ext m1.symm rfl⟩
  rw [List.length_cons, List.length_map, List.length_map, subs_len, rg_length] at this
  exact this
end

/-! ### forwards, by rows with columns -/
def mvd (L : List Int) (σ : RC) (t : Tn) : RC := (nxr L σ.1 t, usort ltI (σ.2.map fun c => (aft L (σ.1, c) t).2))
def nbF (L : List Int) (σ : RC) : List RC := allT.map (mvd L σ)
theorem rchF_iff {L : List Int} {n : Nat} {s g : RC} : Rch (nbF L) n s g ↔ ∃ S : List Tn, S.length = n ∧ S.foldl (mvd L) s = g := by
  induction n generalizing g with
  | zero =>
    constructor
    · intro h; exact ⟨[], rfl, h⟩
    · rintro ⟨S, h1, h2⟩
      obtain rfl := List.length_eq_zero_iff.mp h1
      exact h2
  | succ n ih =>
    constructor
    · rintro ⟨m, h1, h2⟩
      obtain ⟨S, rfl, rfl⟩ := ih.mp h1
      obtain ⟨t, _, rfl⟩ := List.mem_map.mp h2
      exact ⟨S ++ [t], by simp, by rw [List.foldl_append]; rfl⟩
    · rintro ⟨S, h1, rfl⟩
      rcases List.eq_nil_or_concat S with rfl | ⟨S', t, rfl⟩
      · simp at h1
      · rw [List.concat_eq_append] at h1 ⊢
        refine ⟨S'.foldl (mvd L) s, ih.mpr ⟨S', by simpa using h1, rfl⟩, ?_⟩
        rw [List.foldl_append]
        exact List.mem_map.mpr ⟨t, mem_allT t, rfl⟩
/-- a row with columns of it, in order -/
structure OkF (L : List Int) (σ : RC) : Prop where
  r0 : 0 ≤ σ.1
  r1 : σ.1 < L.length
  ne : σ.2 ≠ []
  srt : σ.2.Pairwise fun a b => ltI a b = true
  at_ : ∀ c ∈ σ.2, OkS L (σ.1, c)
theorem sub_of_sorted {xs ys : List Int} (hx : xs.Pairwise fun a b => ltI a b = true) (hy : ys.Pairwise fun a b => ltI a b = true) (h : ∀ x ∈ xs, x ∈ ys) : xs.Sublist ys := by
  have e : xs = ys.filter fun y => decide (y ∈ xs) := strict_uniq lin_int hx (hy.sublist List.filter_sublist) fun x => by
    rw [List.mem_filter]
    exact ⟨fun q => ⟨h x q, by simpa using q⟩, fun q => by simpa using q.2⟩
  rw [e]
  exact List.filter_sublist
theorem OkF.r {L : List Int} {σ : RC} (h : OkF L σ) : OkR L σ := ⟨h.r0, h.r1, sub_of_sorted h.srt (rg_sorted _) fun c hc => mem_rg.mpr ⟨(h.at_ c hc).c0, (h.at_ c hc).c1⟩⟩
theorem OkC.f {L : List Int} {row : Int} {cols : List Int} (h : OkC L row cols) : OkF L (row, cols) := ⟨h.r0, h.r1, h.ne, (rg_sorted _).sublist h.sub, fun c hc => h.at hc⟩
theorem mvd_ok {L : List Int} (h : OkL L) {σ : RC} (hs : OkF L σ) (t : Tn) : OkF L (mvd L σ t) := by
  have a := nxr_ok h hs.r0 hs.r1 t
  refine ⟨a.1, a.2, ?_, usort_sorted lin_int _, fun c hc => ?_⟩
  · obtain ⟨c0, h0⟩ := List.exists_mem_of_ne_nil _ hs.ne
    exact List.ne_nil_of_mem (mem_usort.mpr (List.mem_map.mpr ⟨c0, h0, rfl⟩))
  · obtain ⟨d, hd, rfl⟩ := List.mem_map.mp (mem_usort.mp hc)
    have o := aft_ok h (hs.at_ d hd) t
    have e : (mvd L σ t).1 = (aft L (σ.1, d) t).1 := by rw [aft_row]; rfl
    rw [e]
    exact o
theorem mem_mvd {L : List Int} {σ : RC} {t : Tn} {p : Pr} : (p.1 = (mvd L σ t).1 ∧ p.2 ∈ (mvd L σ t).2) ↔ p.1 = nxr L σ.1 t ∧ ∃ c ∈ σ.2, (aft L (σ.1, c) t).2 = p.2 := by
  show p.1 = nxr L σ.1 t ∧ p.2 ∈ usort ltI _ ↔ _
  rw [mem_usort, List.mem_map]
/-- what the columns come to -/
theorem fwd {L : List Int} (h : OkL L) : ∀ (S : List Tn) {σ : RC}, OkF L σ → OkF L (S.foldl (mvd L) σ) ∧ (∀ c ∈ σ.2, (S.foldl (aft L) (σ.1, c)).1 = (S.foldl (mvd L) σ).1) ∧ ∀ x, x ∈ (S.foldl (mvd L) σ).2 ↔ ∃ c ∈ σ.2, (S.foldl (aft L) (σ.1, c)).2 = x
  | [], σ, hs => ⟨hs, fun c _ => rfl, fun x => ⟨fun q => ⟨x, q, rfl⟩, fun ⟨c, hc, e⟩ => by
    have e : c = x := e
    rw [← e]; exact hc⟩⟩
  | t :: S, σ, hs => by
    have hm := mvd_ok h hs t
    obtain ⟨i1, i2, i3⟩ := fwd h S hm
    have ea : ∀ c ∈ σ.2, aft L (σ.1, c) t = ((mvd L σ t).1, (aft L (σ.1, c) t).2) ∧ (aft L (σ.1, c) t).2 ∈ (mvd L σ t).2 := fun c hc => ⟨Prod.ext (by rw [aft_row]; rfl) rfl, mem_usort.mpr (List.mem_map.mpr ⟨c, hc, rfl⟩)⟩
    rw [List.foldl_cons]
    refine ⟨i1, fun c hc => ?_, fun x => ?_⟩
    · rw [List.foldl_cons, (ea c hc).1]
      exact i2 _ (ea c hc).2
    · rw [i3]
      constructor
      · rintro ⟨d, hd, e⟩
        obtain ⟨c, hc, rfl⟩ := List.mem_map.mp (mem_usort.mp hd)
        exact ⟨c, hc, by rw [List.foldl_cons, (ea c hc).1]; exact e⟩
      · rintro ⟨c, hc, e⟩
        rw [List.foldl_cons, (ea c hc).1] at e
        exact ⟨_, (ea c hc).2, e⟩
theorem fwd_sing {L : List Int} (h : OkL L) {row : Int} {cols : List Int} (hc : OkC L row cols) (S : List Tn) (g : Pr) : S.foldl (mvd L) (row, cols) = sing g ↔ Gath L row cols S g := by
  obtain ⟨o, f1, f2⟩ := fwd h S hc.f
  constructor
  · intro e c q
    have a := f1 c q
    have b := (f2 (S.foldl (aft L) (row, c)).2).mpr ⟨c, q, rfl⟩
    rw [e] at a b
    have b : (S.foldl (aft L) (row, c)).2 ∈ [g.2] := b
    rw [List.mem_singleton] at b
    exact Prod.ext a b
  · intro k
    obtain ⟨c0, h0⟩ := List.exists_mem_of_ne_nil _ hc.ne
    refine Prod.ext ?_ ?_
    · rw [← f1 c0 h0, k c0 h0]; rfl
    · refine strict_uniq lin_int o.srt (m := [g.2]) (by simp) fun x => ?_
      rw [f2, List.mem_singleton]
      constructor
      · rintro ⟨c, q, e⟩; rw [← e, k c q]
      · intro e; exact ⟨c0, h0, by rw [k c0 h0, e]⟩
theorem gth_fwd {L : List Int} (h : OkL L) {row : Int} {cols : List Int} (hc : OkC L row cols) (n : Nat) (g : Pr) : Rch (nbF L) n (row, cols) (sing g) ↔ Gth L row cols n g := by
  rw [rchF_iff]
  constructor
  · rintro ⟨S, hl, e⟩; exact ⟨S, hl, (fwd_sing h hc S g).mp e⟩
  · rintro ⟨S, hl, k⟩; exact ⟨S, hl, (fwd_sing h hc S g).mpr k⟩
theorem dst_nuB {L : List Int} (h : OkL L) {row : Int} {cols : List Int} (hc : OkC L row cols) (n : Nat) (g : Pr) : Dst (nbF L) (row, cols) (sing g) n ↔ nuB L row cols g = some n := by
  constructor
  · intro d
    exact least_of ((gth_fwd h hc n g).mp d.1) fun j hj r => d.2 j hj ((gth_fwd h hc j g).mpr r)
  · intro e
    obtain ⟨a, b⟩ := least_some e
    exact ⟨(gth_fwd h hc n g).mpr a, fun j hj r => b j hj ((gth_fwd h hc j g).mp r)⟩
/-! ### the numbers that the search forwards writes down -/
def putF (k : Nat) (m : List (Pr × Int)) (σ : RC) : List (Pr × Int) := match σ.2 with
  | [c] => aput m (σ.1, c) (k : Int)
  | _ => m
structure FndOk (L : List Int) (s : RC) (T : RC → Nat → Prop) (m : List (Pr × Int)) : Prop where
  nd : (m.map (·.1)).Nodup
  mem : ∀ g v, aget m g = some v ↔ ∃ n : Nat, v = (n : Int) ∧ T (sing g) n
theorem FndOk.put {L : List Int} {s : RC} {T : RC → Nat → Prop} {m : List (Pr × Int)} (h : FndOk L s T m) {k : Nat} {σ : RC} (hT : ∀ n, ¬ T σ n) : FndOk L s (fun τ n => T τ n ∨ (τ = σ ∧ n = k)) (putF k m σ) := by
  obtain ⟨r, cs⟩ := σ
  unfold putF
  have skip : (∀ c, cs ≠ [c]) → FndOk L s (fun τ n => T τ n ∨ (τ = (r, cs) ∧ n = k)) m := fun hn => ⟨h.nd, fun g v => by
    rw [h.mem]
    constructor
    · rintro ⟨n, e, q⟩; exact ⟨n, e, .inl q⟩
    · rintro ⟨n, e, q | ⟨q, _⟩⟩
      · exact ⟨n, e, q⟩
      · exact absurd (congrArg Prod.snd q).symm (hn g.2)⟩
  match cs, hT, skip with
  | [], _, skip => exact skip fun c e => by cases e
  | a :: b :: r', _, skip => exact skip fun c e => by simp at e
  | [c], hT, _ =>
    refine ⟨aput_nodup h.nd, fun g v => ?_⟩
    show aget (aput m (r, c) (k : Int)) g = some v ↔ _
    rw [aget_aput]
    by_cases e : (r, c) = g
    · subst e
      rw [if_pos rfl]
      constructor
      · intro q; cases q; exact ⟨k, rfl, .inr ⟨rfl, rfl⟩⟩
      · rintro ⟨n, rfl, q | ⟨_, q⟩⟩
        · exact absurd q (hT n)
        · rw [q]
    · rw [if_neg e, h.mem]
      constructor
      · rintro ⟨n, e2, q⟩; exact ⟨n, e2, .inl q⟩
      · rintro ⟨n, e2, q | ⟨q, _⟩⟩
        · exact ⟨n, e2, q⟩
        · refine absurd ?_ e
          have q1 : g.1 = r := congrArg Prod.fst q
          have q2 : [g.2] = [c] := congrArg Prod.snd q
          simp only [List.cons.injEq, and_true] at q2
          exact Prod.ext q1.symm q2.symm
theorem FndOk.congr {L : List Int} {s : RC} {T T' : RC → Nat → Prop} {m : List (Pr × Int)} (h : FndOk L s T m) (e : ∀ τ n, T τ n ↔ T' τ n) : FndOk L s T' m := by
  have : T = T' := funext fun τ => funext fun n => propext (e τ n)
  rw [← this]; exact h
theorem FndOk.puts {L : List Int} {s : RC} {k : Nat} : ∀ (front : List RC) {T : RC → Nat → Prop} {m : List (Pr × Int)}, FndOk L s T m → front.Nodup → (∀ σ ∈ front, ∀ n, ¬ T σ n) → FndOk L s (fun τ n => T τ n ∨ (τ ∈ front ∧ n = k)) (front.foldl (putF k) m)
  | [], T, m, h, _, _ => h.congr fun τ n => by simp
  | σ :: r, T, m, h, nd, hT => by
    rw [List.nodup_cons] at nd
    rw [List.foldl_cons]
    refine (FndOk.puts r (h.put (hT σ List.mem_cons_self)) nd.2 fun τ hτ n q => ?_).congr fun τ n => ?_
    · rcases q with q | ⟨q, _⟩
      · exact hT τ (List.mem_cons_of_mem _ hτ) n q
      · exact nd.1 (q ▸ hτ)
    · rw [List.mem_cons]
      constructor
      · rintro ((q | ⟨q, e⟩) | ⟨q, e⟩)
        · exact .inl q
        · exact .inr ⟨.inl q, e⟩
        · exact .inr ⟨.inr q, e⟩
      · rintro (q | ⟨q | q, e⟩)
        · exact .inl (.inl q)
        · exact .inl (.inr ⟨q, e⟩)
        · exact .inr ⟨q, e⟩
end Fx

namespace Fx
open PySem PySem.Spec L2
open PyProof.Rows hiding St

/-! ### set(xs), many tuples of which few are different -/
theorem set_update_tupsD {P : Program} {w : World} {A : Around} {I : Addr} {fp wr : List Addr} {G : Array GenState → Array GenState → Prop} {n : Nat} {Pv : Nat → Value → Prop} {St : Nat → Shared → Prop} {R : Result → Shared → Prop}
    (W : WalksS P w A.in1 I fp wr G n Pv St) (S : Addr) (hS : S ∉ fp) (ks : List (Addr × List Int)) (hn : n = ks.length) (D : List (List Int)) (hD : ∀ p ∈ ks, p.2 ∈ D) (hd : D.length ≤ 62)
    (hPv : ∀ (i : Nat) (v : Value), Pv i v → ∃ p, ks[i]? = some p ∧ v = Value.ref p.fst) (h0 : Heap) (hT : ∀ p ∈ ks, L2.IsT P w h0 p.snd p.fst) (h0S : h0.get? S = none) (h0w : ∀ b ∈ wr, h0.get? b = none) (hu : A.in1.units < cLine) :
    ∀ (k i : Nat) (s : Shared), n - i = k → i ≤ n → St i s → (∀ (b : Addr) (o : Obj), h0.get? b = some o → s.heap.get? b = some o) → (∃ L es ep t, SetTR P w s.heap S L es ep t ∧ L2.Got ks i L) →
      (∀ (s' : Shared) (L : List (Addr × List Int)) (es : Array (Int × Value)) (ep : Nat) (t : SetTable), Moved (S :: wr) G s s' → SetTR P w s'.heap S L es ep t → L2.Got ks n L → (∀ (b : Addr) (o : Obj), h0.get? b = some o → s'.heap.get? b = some o) → R (Except.ok (Flow.ret Value.none)) s') →
      codeAny (model P w) A (Code.builtin "set.update.loop" { pos := [Value.ref S, Value.ref I] }) R s := by
  intro k
  induction k with
  | zero =>
    intro i s hk hi hSt hk0 ⟨L, es, ep, t, hR, hG⟩ hfin
    obtain rfl : i = n := by omega
    refine codeAny_builtin F.entry_set_update_loop ?_
    rw [Around.under_plainId F.plain_set_update_loop]
    unfold Builtin.«set.update.loop»
    refine wpAny_bind (W.done s _ _ hSt fun s' hm => wpAny_pure ?_)
    have kp : ∀ (b : Addr) (o : Obj), h0.get? b = some o → s'.heap.get? b = some o := fun b o e => hm.heap b o (fun q => by rw [h0w b q] at e; cases e) (hk0 b o e)
    exact hfin s' L es ep t (hm.mono fun b q => List.mem_cons_of_mem _ q) (hR.keep (fun o e => hm.heap S o (fun q => hS (W.sub S q)) e) fun p hp => L2.isT_keep (hT p (List.mem_of_mem_take (hG.sub p hp))) kp) hG kp
  | succ k ih =>
    intro i s hk hi hSt hk0 ⟨L, es, ep, t, hR, hG⟩ hfin
    have hlt : i < n := by omega
    refine codeAny_builtin F.entry_set_update_loop ?_
    rw [Around.under_plainId F.plain_set_update_loop]
    unfold Builtin.«set.update.loop»
    refine wpAny_bind (W.item i s _ _ hlt hSt fun v s1 hv hSt1 hm => ?_)
    obtain ⟨p, hp, rfl⟩ := hPv i v hv
    have hpm : p ∈ ks := List.mem_of_getElem? hp
    have kp1 : ∀ (b : Addr) (o : Obj), h0.get? b = some o → s1.heap.get? b = some o := fun b o e => hm.heap b o (fun q => by rw [h0w b q] at e; cases e) (hk0 b o e)
    have hR1 : SetTR P w s1.heap S L es ep t := hR.keep (fun o e => hm.heap S o (fun q => hS (W.sub S q)) e) fun p hp => L2.isT_keep (hT p (List.mem_of_mem_take (hG.sub p hp))) kp1
    have hLl : L.length ≤ 62 := by
      have := nodup_sub hR1.nd (U := D) fun x hx => by
        obtain ⟨q, hq, rfl⟩ := List.mem_map.mp hx
        exact hD q (List.mem_of_mem_take (hG.sub q hq))
      rw [List.length_map] at this
      omega
    refine wpAny_bind (wpAny_holding ?_)
    unfold setAdd
    refine wpAny_holding (wpAny_bind (wpAny_pyHash_tuple (knd := intKind P w) hu (L2.isT_keep (hT p hpm) kp1) ?_))
    refine L2.add_at (s := { heap := s1.heap, gens := s1.gens, drawn := s1.drawn, toks := s1.toks + (p.2.length + 1), os := s1.os }) hR1 (L2.isT_keep (hT p hpm) kp1) hu (by omega) fun b h' L' es' ep' t' hsb hR' hsame hmore => ?_
    have hkeep : ∀ (c : Addr) (o : Obj), c ≠ S → s1.heap.get? c = some o → h'.get? c = some o := fun c o hc e => by rw [hsb.2 c hc]; exact e
    have hSt2 := W.frame (i + 1) s1 h' (s1.toks + (p.2.length + 1)) hSt1 (Nat.le_add_right _ _) fun c hc o e => hkeep c o (fun q => hS (by rw [← q]; exact hc)) e
    have hG' : L2.Got ks (i + 1) L' := by
      by_cases hmem : p.2 ∈ L.map (·.2)
      · rw [hsame hmem]; exact hG.same hp hmem
      · exact hG.more hp (hmore hmem)
    refine wpAny_pure ⟨plainId_quiet F.plain_set_update_loop _, ?_⟩
    have hm2 : Moved (S :: wr) G s { heap := h', gens := s1.gens, drawn := s1.drawn, toks := s1.toks + (p.2.length + 1), os := s1.os } :=
      (hm.mono fun b q => List.mem_cons_of_mem _ q).then_heap (Nat.le_add_right _ _) fun b o q e => hkeep b o (fun z => q (by rw [z]; exact List.mem_cons_self)) e
    refine ih (i + 1) _ (by omega) (by omega) hSt2 (fun b o e => hkeep b o (fun q => by rw [q, h0S] at e; cases e) (kp1 b o e)) ⟨L', es', ep', t', hR', hG'⟩ fun s' L2' es2 ep2 t2 hm3 hR3 hG3 hk3 => ?_
    exact hfin s' L2' es2 ep2 t2 (Moved.trans W.gtrans hm2 hm3) hR3 hG3 hk3
theorem call_set_tupsD {P : Program} {w : World} {A : Around} {E : Value → Shared → Prop} {s : Shared} {l : Addr} {items : Array Value} (ks : List (Addr × List Int)) {Q : Value → Shared → Prop}
    (hA : A.handled = none) (hl : s.heap.IsList l items) (hit : items.toList = ks.map fun p => Value.ref p.1) (hT : ∀ p ∈ ks, L2.IsT P w s.heap p.snd p.fst) (D : List (List Int)) (hD : ∀ p ∈ ks, p.2 ∈ D) (hd : D.length ≤ 62) (hu : A.units + 3 < cLine)
    (h : ∀ (h' : Heap) (tk : Nat) (L : List (Addr × List Int)) (es : Array (Int × Value)) (ep : Nat) (t : SetTable), SetTR P w h' s.heap.objs.size L es ep t → L2.Got ks ks.length L → (∀ (b : Addr) (o : Obj), s.heap.get? b = some o → h'.get? b = some o) →
      Q (Value.ref s.heap.objs.size) { heap := h', gens := s.gens, drawn := s.drawn, toks := tk, os := s.os }) :
    wpAny (model P w) A (call (.type "set") [.ref l]) Q E s := by
  obtain ⟨c0, tl, hmro⟩ := F.called_set.mro
  have hmade := F.called_set.made
  have hcc := F.called_set.canCreate
  have hnt := F.called_set.notType
  have hsub := F.called_set.sub
  have hchk := F.typeCall_set_1 (.ref l)
  have ho : (s.heap.push { cls := .type "set", data := .set #[] 0 (SetTable.fresh 0 0 !w.params.followText "set-order") }).get? s.heap.objs.size = some { cls := .type "set", data := .set #[] 0 (SetTable.fresh 0 0 !w.params.followText "set-order") } := Heap.get?_push_size _ rfl
  refine wpAny_call (codeAny_of_tree (wpAny_pure ⟨Code.quiet_builtin _ (by decide +kernel), codeAny_builtin F.entry_type_call ?_⟩))
  rw [Around.under_plain (weight_type_call_type _ _ _) rfl]
  unfold Builtin.«type.__call__»
  simp only [hnt, hcc, hchk, Bool.false_eq_true, if_false]
  rw [hmro, hmade]
  simp only [pure_bind, List.isEmpty_cons, Bool.false_eq_true, if_false]
  have hcode := code_set_led1 (P := P) (w := w) (A := A.in1) (E := E) (s := s) (.ref l) (Q₁ := fun obj s1 => obj = .ref s.heap.objs.size ∧ s1 = { s with heap := s.heap.push { cls := .type "set", data := .set #[] 0 (SetTable.fresh 0 0 !w.params.followText "set-order") } }) ⟨rfl, rfl⟩
  refine wpAny_bind (wpAny_holding (wpAny_call (codeAny_mono hcode ?_)))
  intro r s1 hr
  match r, hr with
  | .error e, hr => exact hr
  | .ok (.ret v), hr =>
  obtain ⟨rfl, rfl⟩ := hr
  clear hcode
  refine wpAny_bind (wpAny_isInstance ⟨_, ho, rfl⟩ hsub ?_)
  simp only [Bool.not_true, Bool.false_eq_true, if_false]
  refine wpAny_bind (wpAny_holding ?_)
  unfold callSpecial?
  refine wpAny_bind (wpAny_specialOf ⟨_, ho, rfl⟩ F.slot_set_init.lookup ?_)
  refine wpAny_holding ?_
  rw [F.slot_set_init.bind]
  simp only [pure_bind]
  refine wpAny_bind (wpAny_call (codeAny_call_builtin F.slot_set_init.plain F.entry_set_init (check_set_init_1 ⟨_, ho, rfl⟩ ?_)))
  obtain ⟨⟨ccl, dd, dat, sl⟩, hol, hcl, nl, hdl⟩ := hl
  simp only at hcl hdl
  subst hcl hdl
  have hol' := Heap.get?_push_of_some { cls := .type "set", data := .set #[] 0 (SetTable.fresh 0 0 !w.params.followText "set-order") } hol
  have hl' : (s.heap.push { cls := .type "set", data := .set #[] 0 (SetTable.fresh 0 0 !w.params.followText "set-order") }).IsList l items := ⟨_, hol', rfl, nl, rfl⟩
  unfold Builtin.«set.__init__»
  have f1 := F.sub_list_set
  have f2 := F.sub_list_frozenset
  wp_walk using wpAny_loadPart' ho, wpAny_loadPart' hol', wpAny_pyIter_list hl'
  have hsz : items.size = ks.length := by rw [← Array.length_toList, hit, List.length_map]
  have hlt : l < s.heap.objs.size := Heap.lt_size hol
  have hI : (s.heap.push { cls := .type "set", data := .set #[] 0 (SetTable.fresh 0 0 !w.params.followText "set-order") }).objs.size = s.heap.objs.size + 1 := Heap.size_push _ _
  have hA3 : A.in1.in1.in1.handled = none := hA
  have hu3 : A.in1.in1.in1.units < cLine := hu
  have W := (Walks.list (prog := P) (w := w) hA3 ((s.heap.push { cls := .type "set", data := .set #[] 0 (SetTable.fresh 0 0 !w.params.followText "set-order") }).objs.size) l (Nat.ne_of_lt (by rw [hI]; exact Nat.lt_succ_of_lt hlt)) items).toS
  have hsome : ∀ b o, s.heap.get? b = some o → b ≠ s.heap.objs.size ∧ b ≠ s.heap.objs.size + 1 := fun b o e => by
    have hb := Heap.lt_size e
    exact ⟨Nat.ne_of_lt hb, Nat.ne_of_lt (Nat.lt_succ_of_lt hb)⟩
  have hnone : ∀ b, s.heap.objs.size ≤ b → s.heap.get? b = none := fun b hb => by
    cases e : s.heap.get? b with
    | none => rfl
    | some o => exact absurd (Heap.lt_size e) (Nat.not_lt.mpr hb)
  refine set_update_tupsD W s.heap.objs.size (by rw [hI]; simp only [List.mem_cons, List.not_mem_nil, or_false, not_or]; exact ⟨Nat.ne_of_lt (Nat.lt_succ_self _), (Nat.ne_of_lt hlt).symm⟩) ks hsz D hD hd (fun i v hv => ?_) s.heap hT (hnone _ (Nat.le_refl _)) (fun b hb => ?_) hu3 items.size 0 _ (Nat.sub_zero _) (Nat.zero_le _) ?_ (fun b o e => Heap.get?_push_of_some _ (Heap.get?_push_of_some _ e)) ⟨[], #[], 0, _, L2.setTR_fresh (Heap.get?_push_of_some _ ho), L2.Got.zero ks⟩ (fun s' L es ep t hm hR hG hk => ?_)
  · have hv' : items[i]? = some v := hv
    have e : items.toList[i]? = some v := by rw [Array.getElem?_toList]; exact hv'
    rw [hit, List.getElem?_map] at e
    obtain ⟨p, hp, e2⟩ := Option.map_eq_some_iff.mp e
    exact ⟨p, hp, e2.symm⟩
  · rw [hI] at hb
    have e : b = s.heap.objs.size + 1 := List.mem_singleton.mp hb
    rw [e]
    exact hnone _ (Nat.le_succ _)
  · exact ⟨⟨_, Heap.get?_push_size _ rfl, rfl, rfl⟩, hl'.push _⟩
  · have fin : Q (.ref s.heap.objs.size) s' := by
      obtain ⟨hp', g', d', tk', os'⟩ := s'
      obtain ⟨mh, mg, md, mo, mt⟩ := hm
      have e1 : g' = s.gens := mg
      have e2 : d' = s.drawn := md
      have e3 : os' = s.os := mo
      subst e1 e2 e3
      exact h hp' tk' L es ep t hR (by rw [← hsz]; exact hG) hk
    refine wpAny_pure (wpAny_pure ?_)
    refine wpAny_pure ?_
    exact wpAny_pure fin
def rSetTD (K : PySem.W.Frag) (P : Program) (w : World) : List V → Hp → VK → Prop := fun xs H Q => ∃ (l : Addr) (ks : List (Addr × List Int)) (D : List (List Int)), xs = [V.ref l] ∧ SqL K H l (ks.map fun p => V.ref p.1) ∧ (∀ p ∈ ks, SqT K H p.1 (p.2.map V.int)) ∧ (∀ p ∈ ks, p.2 ∈ D) ∧ D.length ≤ 62 ∧
  ∀ a L, H a = none → (∀ p ∈ L, p ∈ ks) → (∀ p ∈ ks, p.2 ∈ L.map (·.2)) → Q (.ref a) (upd H a (SetTO P w a L))
theorem vals_refs : ∀ {ks : List (Addr × List Int)} {its : List Value}, Vals (ks.map fun p => V.ref p.1) its → its = ks.map fun p => Value.ref p.1
  | [], _, h => by cases h; rfl
  | k :: r, _, h => by
    cases h with
    | cons h t => rw [List.map_cons, ← vals_refs t, h]
section
variable {X : Cx} {Wx : WX}
theorem setTO_ok {P : Program} {w : World} {H : Hp} {h : Heap} {a : Addr} {L : List (Addr × List Int)} (R : SetT0 P w h a L) : ObjOk P w H h a (SetTO P w a L) := by
  refine ⟨R, ?_, fun h1 h2 p k => ?_⟩
  · obtain ⟨es, ep, t, ⟨o, ho, _⟩, _⟩ := R.ex; exact ⟨o, ho⟩
  · obtain ⟨es, ep, t, ⟨o, ho, q⟩, r⟩ := SetT0.ex p
    exact ⟨es, ep, t, ⟨o, k o ho, q⟩, r⟩
theorem cr_setTD (hc : X.calm = true) (hu : Hu X) : CallR X (.type "set") (rSetTD X.K X.prog X.w) := by
  intro pins s σ H xs us Q I r h
  obtain ⟨l, ks, D, rfl, hl, hk, hD, hd, q⟩ := h
  rw [Vals.ref1 r]
  obtain ⟨its, rv, pl, hz⟩ := I.list hl
  refine call_set_tupsD ks (I.ok.hd hc) pl.isList (by simpa using vals_refs rv) (fun p hp => I.isT (hk p hp)) D hD hd (by unfold Hu at hu; omega) fun h' tk L es ep t R hG kp => ?_
  exact ⟨.ref _, upd H s.heap.objs.size (SetTO X.prog X.w s.heap.objs.size L), I.laid (t' := tk) kp (Nat.le_refl _) (setTO_ok R.t0), rfl, q _ L (I.hok.fresh (Nat.le_refl _)) (fun p hp => List.mem_of_mem_take (hG.sub p hp)) (fun p hp => hG.all p (by rw [List.take_length]; exact hp))⟩
def fSortSet3 : PyData → Option PyData := fun x => match fSortSet2 x with
  | some y => some y
  | none => match x with
    | .list ds => match prs ds with
      | some ps => if (usort SrtO.lexB ps).length ≤ 62 ∧ ps.all pr64 = true then some (.list ((usort SrtO.lexB ps).map prD)) else none
      | none => none
    | _ => none
def rSet5 (K : PySem.W.Frag) (C : Wd) : List V → Hp → VK → Prop := fun xs H Q => rSetTD K C.P C.w xs H Q ∨ rSet4 K C xs H Q
theorem o_sortSet3 : Op1 X Wx (g1 fSortSet3) (fun v H Q => rSet5 X.K (wd X) [v] H fun x H2 => rSrt2 X.K (wd X) [x] H2 Q) := op1_of fun σ H G ad st v w x d Q rs rv e1 e h => by
  unfold fSortSet3 at e
  split at e
  · rename_i y ey
    cases e
    refine .inr (o_sortSet2 (Wx := Wx) σ H G ad st v w Q rs rv ?_)
    unfold g1
    rw [e1]
    show Post X Wx G ad H σ (relW X) (okD st (fSortSet2 x)) Q
    rw [ey]
    exact h
  · split at e
    · obtain ⟨p, vs, rfl, s1, r1⟩ := der_lst rs rv e1
      split at e
      · rename_i ps e3
        split at e
        · rename_i hz
          obtain ⟨hz, hb⟩ := hz
          cases e
          obtain ⟨zs, rfl, rfl, hzs⟩ := prs_rel r1 e3
          refine .inl ⟨p, zs.map zK, (usort SrtO.lexB (zs.map (·.2))).map fun q => [q.1, q.2], rfl, ?_, zK_tup (C := wd X) rs.sub hzs, fun q hq => ?_, by rw [List.length_map]; exact hz, fun a L ha hs hc => ?_⟩
          · rw [List.map_map]; exact s1
          · obtain ⟨z, hz', rfl⟩ := List.mem_map.mp hq
            exact List.mem_map.mpr ⟨z.2, mem_usort.mpr (List.mem_map.mpr ⟨z, hz', rfl⟩), rfl⟩
          · obtain ⟨ys, rfl, hy⟩ := lift_sub (f := zK) (zs := zs) (L := L) fun q hq => List.mem_map.mp (hs q hq)
            obtain ⟨h', rs'⟩ := h.aside rs (o := SetTO X.prog X.w a (ys.map zK)) ha
            have bd : ∀ z ∈ zs, (0 ≤ z.2.1 ∧ z.2.1 < 64) ∧ 0 ≤ z.2.2 ∧ z.2.2 < 64 := fun z hz' => by
              have q := List.all_eq_true.mp hb z.2 (List.mem_map.mpr ⟨z, hz', rfl⟩)
              simp [pr64] at q
              exact ⟨⟨q.1.1.1, q.1.1.2⟩, q.1.2, q.2⟩
            refine .inr ⟨a, ys.map zK, 2, 64, rfl, upd_same, fun q hq => ?_, by decide, fun q hq => ?_, fun L' p' hp hn hl hw hp' => ?_⟩
            · obtain ⟨y, hy', rfl⟩ := List.mem_map.mp hq
              exact Le.sqT (Le.upd ha) (Le.sqT rs.sub (hzs y (hy y hy')))
            · obtain ⟨y, hy', rfl⟩ := List.mem_map.mp hq
              obtain ⟨b1, b2⟩ := bd y (hy y hy')
              refine ⟨rfl, fun m hm => ?_⟩
              simp only [zK, List.mem_cons, List.not_mem_nil, or_false] at hm
              rcases hm with rfl | rfl
              · exact b1
              · exact b2
            · obtain ⟨us, pu, rfl⟩ := perm_lift hp rfl
              have hu : ∀ u ∈ us, u ∈ zs := fun u hu => hy u (pu.mem_iff.mp hu)
              have ms : ∀ x, x ∈ us.map (·.2) ↔ x ∈ zs.map (·.2) := fun x => ((pu.map (·.2)).mem_iff).trans (zK_mem hy hc x)
              have e3 : us.map (·.2) = usort SrtO.lexB (zs.map (·.2)) := by
                refine strict_uniq lin_pr ?_ (usort_sorted lin_pr _) fun x => by rw [mem_usort]; exact ms x
                rw [List.pairwise_map] at hw ⊢
                rw [List.map_map] at hn
                have hn := List.pairwise_map.mp hn
                refine (hw.and hn).imp_of_mem fun {x y} hx hy' q => ?_
                obtain ⟨b1, b2⟩ := bd x (hu x hx)
                obtain ⟨b3, b4⟩ := bd y (hu y hy')
                exact SrtO.lexB_iff.mpr (pair_lt q.1 q.2 b1 b2 b3 b4)
              rw [List.map_map]
              rw [← e3] at h'
              exact h'.newLst rs' (dvAll_prs us fun z m => hzs z (hu z m)) p' hp'
        · cases e
      · cases e
    · cases e
variable {p p2 q pos : Pos} {a : Expr} {Fa : EF}
theorem cr_set5 (hc : X.calm = true) (hu : Hu X) : CallR X (.type "set") (rSet5 X.K (wd X)) := CallR.or (cr_setTD hc hu) (cr_set4 hc hu)
theorem fe_sortSet3 (hc : X.calm = true) (hu : Hu X) (hg : Gl X "sorted") (hm : X.mg "sorted" = none) (hg2 : Gl X "set") (hm2 : X.mg "set" = none) (ha : FE X Wx a Fa) (na : starEach [a] X.env = (false, eval a X.env) :: starEach [] X.env := by rfl)
    (nb : starEach [.Call (.Name "set" p2) [a] [] q] X.env = (false, eval (.Call (.Name "set" p2) [a] [] q) X.env) :: starEach [] X.env := by rfl) : FE X Wx (.Call (.Name "sorted" p) [.Call (.Name "set" p2) [a] [] q] [] pos) (c1 (g1 fSortSet3) Fa) :=
  fe_1 o_sortSet3 ha fun ta pa => pe_callB (CallR.or (cr_sortedSet hc) (cr_sortedT hc)) hg hm PyProof.Rows.boot_sorted (pa_cons (pe_callTy (cr_set5 hc hu) hg2 hm2 PyProof.Rows.boot_set (pa_cons pa pa_nil na) (by decide) (by decide) na rfl) pa_nil nb) (by decide) (by decide) nb rfl
end
theorem sortSet_ints {ns : List Int} (h : ns.length < 64) : fSortSet3 (.list (ns.map .int)) = some (.list ((usort ltI ns).map .int)) := by
  have e : fSortSet2 (.list (ns.map .int)) = some (.list ((usort ltI ns).map .int)) := by
    unfold fSortSet2
    simp only [ints_map]
    rw [if_pos h]
  unfold fSortSet3
  rw [e]
theorem sortSet_prs {ps : List Pr} (h : (usort SrtO.lexB ps).length ≤ 62) (hp : ps.all pr64 = true) : fSortSet3 (.list (ps.map prD)) = some (.list ((usort SrtO.lexB ps).map prD)) := by
  cases hps : ps with
  | nil => rfl
  | cons p r =>
    rw [← hps]
    have e : intsD (ps.map prD) = none := by rw [hps]; rfl
    unfold fSortSet3 fSortSet2
    simp only [e]
    unfold fSortSet
    simp only [prs_map]
    by_cases hl : ps.length < 64
    · rw [if_pos ⟨hl, hp⟩]
    · rw [if_neg (fun q => hl q.1)]
      simp only
      rw [if_pos ⟨h, hp⟩]
end Fx

namespace FxH
open PySem PySem.Spec L2 L2H HotX
open PyProof.Rows hiding St

/-! ### iterators' ends while an exception is handled -/
section
variable {prog : Program} {w : World} {A : Around} {E : Value → Shared → Prop} {s : Shared}
/-- StopIteration, raised and caught at once -/
theorem stop_hot {α : Type} {it x1 : Addr} {f : Obj → Obj} {Q : Option Value → Shared → Prop} {o1 : Obj} {vs1 : Array Value} (hh : A.handled = some (.ref x1)) (h1 : s.heap.get? x1 = some o1) (d1 : o1.data = .fields vs1) (c1 : vs1[2]? = some .none) (hne : it ≠ x1)
    (hQ : ∀ h', Heap.ExtBut it s.heap h' → Q none { s with heap := h' }) :
    wpAny (model prog w) A (Builtin.SmallTypes.stopIteration : Sem α) (fun _ _ => False) (fun e s' => ∃ a, e = .ref a ∧ s'.TypeIs (.ref a) "StopIteration" ∧ Q none s') { s with heap := s.heap.update it f } := by
  show wpAny _ _ (newExc (.type "StopIteration") [] >>= _) _ _ _
  refine wpAny_bind ?_
  simp only [newExc, newTuple]
  refine wpAny_bind (wpAny_newObj_type ?_ (by size_fits))
  refine wpAny_bind (m := firstArgMember _ _) (wpAny_of_eq (a := Value.none) (by first | rfl | (simp only [firstArgMember]; rfl)) ?_)
  refine wpAny_newObj_type ?_ (by size_fits)
  have hx : (s.heap.update it f).get? x1 = some o1 := (Heap.get?_update_other _ _ hne).trans h1
  refine raiseNew_hot ⟨hh, o1, vs1, Heap.get?_push_of_some _ (Heap.get?_push_of_some _ hx), d1, c1⟩ (Nat.ne_of_lt (Heap.lt_size (Heap.get?_push_of_some _ hx))) (Heap.get?_push_size _ rfl) rfl (by first | (simp; done) | (simp; omega) | (simp only [Array.size_append]; simp; omega)) ?_
  refine ⟨_, rfl, ⟨_, Heap.get?_update_self _ (Heap.get?_push_size _ rfl) rfl, rfl⟩, hQ _ fun b o hb e => ?_⟩
  have eb : (s.heap.update it f).get? b = some o := (Heap.get?_update_other _ _ (Ne.symm hb)).trans e
  rw [Heap.get?_update_other _ _ (Nat.ne_of_gt (Heap.lt_size (Heap.get?_push_of_some _ eb)))]
  exact Heap.get?_push_of_some _ (Heap.get?_push_of_some _ eb)
theorem ne_iter {it x1 : Addr} {o o1 : Obj} {a b : Value} {vs1 : Array Value} (ho : s.heap.get? it = some o) (hd : o.data = .fields #[a, b]) (h1 : s.heap.get? x1 = some o1) (d1 : o1.data = .fields vs1) (c1 : vs1[2]? = some .none) : it ≠ x1 := by
  intro z
  subst z
  rw [ho] at h1
  cases h1
  rw [hd] at d1
  cases d1
  simp at c1
theorem next_list_end_hot {it l x1 : Addr} {i : Nat} {items} {Q : Option Value → Shared → Prop} (hot : HotAt A x1 s.heap)
    (hit : s.heap.IsListIter it l i) (hl : s.heap.IsList l items) (hx : items[i]? = none)
    (hQ : ∀ h', Heap.ExtBut it s.heap h' → Q none { s with heap := h' }) : wpAny (model prog w) A (pyNext (.ref it)) Q E s := by
  obtain ⟨hh, o1, vs1, h1, d1, c1⟩ := hot
  obtain ⟨o, ho, hc, hd⟩ := id hit
  obtain ⟨ol, hol, _, nl, hdl⟩ := hl
  have hne := ne_iter ho hd h1 d1 c1
  unfold pyNext
  refine wpAny_bind (wpAny_attempt (wpAny_callSpecial?_slot (name := Str.ofString "__next__") hit.typeIs slot_listiter_next
    (wpAny_call_entry slot_listiter_next hit.typeIs entry_listiter_next ?_ (args_listiter_next _))))
  show wpAny _ _ (field (.ref it) 0 >>= _) _ _ s
  refine wpAny_bind (wpAny_field ho hd (x := .ref l) rfl ?_)
  show wpAny _ _ (if (Value.ref l == Value.none) = true then _ else _) _ _ s
  rw [if_neg (show ¬ ((Value.ref l == Value.none) = true) from Bool.false_ne_true)]
  show wpAny _ _ (field (.ref it) 1 >>= _) _ _ s
  refine wpAny_bind (wpAny_field ho hd (x := .int i 0) rfl ?_)
  show wpAny _ _ (seqItems? (.ref l) >>= _) _ _ s
  refine wpAny_bind (wpAny_seqItems hol hdl ?_)
  simp only [Int.toNat_natCast, hx]
  refine wpAny_bind (wpAny_rule (wpAny_bind (wpAny_setField ho hd (by simp) ?_)))
  refine wpAny_mono (stop_hot (A := A.in1) (Q := Q) hh h1 d1 c1 hne hQ) (fun _ _ z => False.elim z) fun e s' ⟨a, ea, ht, q⟩ => ?_
  subst ea
  refine wpAny_bind (wpAny_isInstance (T := "StopIteration") (b := true) ht isSubtype_stop ?_)
  exact wpAny_pure q
theorem next_tuple_end_hot {it t x1 : Addr} {i : Nat} {items} {Q : Option Value → Shared → Prop} (hot : HotAt A x1 s.heap)
    (hit : IsTupIter s.heap it t i) (ht : IsTup s.heap t items) (hx : items[i]? = none)
    (hQ : ∀ h', Heap.ExtBut it s.heap h' → Q none { s with heap := h' }) : wpAny (model prog w) A (pyNext (.ref it)) Q E s := by
  obtain ⟨hh, o1, vs1, h1, d1, c1⟩ := hot
  obtain ⟨o, ho, hc, hd⟩ := id hit
  obtain ⟨ol, hol, _, nl, hdl⟩ := ht
  have hne := ne_iter ho hd h1 d1 c1
  unfold pyNext
  refine wpAny_bind (wpAny_attempt (wpAny_callSpecial?_slot (name := Str.ofString "__next__") hit.typeIs slot_tupleiter_next
    (wpAny_call_entry slot_tupleiter_next hit.typeIs entry_tupleiter_next ?_ (args_tupleiter_next _))))
  show wpAny _ _ (field (.ref it) 0 >>= _) _ _ s
  refine wpAny_bind (wpAny_field ho hd (x := .ref t) rfl ?_)
  show wpAny _ _ (if (Value.ref t == Value.none) = true then _ else _) _ _ s
  rw [if_neg (show ¬ ((Value.ref t == Value.none) = true) from Bool.false_ne_true)]
  show wpAny _ _ (field (.ref it) 1 >>= _) _ _ s
  refine wpAny_bind (wpAny_field ho hd (x := .int i 0) rfl ?_)
  show wpAny _ _ (seqItems? (.ref t) >>= _) _ _ s
  refine wpAny_bind (wpAny_seqItems hol hdl ?_)
  simp only [Int.toNat_natCast, hx]
  refine wpAny_bind (wpAny_rule (wpAny_bind (wpAny_setField ho hd (by simp) ?_)))
  refine wpAny_mono (stop_hot (A := A.in1) (Q := Q) hh h1 d1 c1 hne hQ) (fun _ _ z => False.elim z) fun e s' ⟨a, ea, ht, q⟩ => ?_
  subst ea
  refine wpAny_bind (wpAny_isInstance (T := "StopIteration") (b := true) ht isSubtype_stop ?_)
  exact wpAny_pure q
/-! ### a tuple unpacked -/
theorem unpackItems_tuple_hot {t x1 : Addr} {items : Array Value} {Q : List Value → Shared → Prop} (hot : HotAt A x1 s.heap) (ht : IsTup s.heap t items)
    (hQ : ∀ h', Heap.ExtBut s.heap.objs.size s.heap h' → Q items.toList { s with heap := h' }) : wpAny (model prog w) A (unpackItems (.ref t) items.size none) Q E s := by
  have hlt : t ≠ s.heap.objs.size := by obtain ⟨o, ho, _⟩ := ht; exact Nat.ne_of_lt (Heap.lt_size ho)
  unfold unpackItems
  refine wpAny_bind ?_
  · unfold notIterableAtAll
    refine wpAny_bind (wpAny_specialOf ht.typeIs slot_tuple_iter.lookup ?_)
    refine wpAny_pure ?_
    simp only [Bool.false_eq_true, if_false]
    refine wpAny_bind (wpAny_holding (iter_tuple ht ?_))
    refine wpAny_bind (wpAny_holding (draw_tuple hlt items.size 0 _ _ ⟨_, Heap.get?_push_size _ rfl, rfl, rfl⟩ (ht.push _) (by omega) fun h₁ hit₁ hs₁ => ?_))
    have hall : List.take items.size (List.drop 0 items.toList) = items.toList := by
      rw [List.drop_zero]; exact List.take_of_length_le (by simp)
    rw [hall]
    rw [if_neg (by simp)]
    have ht₁ : IsTup h₁ t items := (ht.push _).extBut hs₁.extBut hlt
    have hot₁ : HotAt A x1 h₁ := by
      obtain ⟨hh, o1, vs1, h1, d1, c1⟩ := hot
      exact ⟨hh, o1, vs1, hs₁.extBut x1 o1 (Nat.ne_of_lt (Heap.lt_size h1)) (Heap.get?_push_of_some _ h1), d1, c1⟩
    refine wpAny_bind (wpAny_holding (next_tuple_end_hot (s := { s with heap := h₁ }) hot₁ hit₁ ht₁ (by simp) fun h₂ he₂ => ?_))
    simp only [Option.isSome_none, Bool.false_eq_true, if_false]
    refine wpAny_pure (hQ h₂ fun b o hb e => he₂ b o hb (hs₁.extBut b o hb (Heap.get?_push_of_some _ e)))
theorem assign_Tuple_hot {env : Env} {elts : List Expr} {k} {pos : Pos} {t x1 : Addr} {items : Array Value} {Q : Unit → Shared → Prop} (hot : HotAt A x1 s.heap) (ht : IsTup s.heap t items)
    (hn : (assignEach elts env).length = items.size) (hstar : (assignEach elts env).findIdx? (·.1) = none)
    (h : ∀ h', Heap.ExtBut s.heap.objs.size s.heap h' → wpAny (model prog w) A (assignInOrder ((assignEach elts env).map (·.2)) items.toList) Q E { s with heap := h' }) :
    wpAny (model prog w) A (assign (.Tuple elts k pos) env (.ref t)) Q E s := by
  rw [assign_Tuple]
  refine wpAny_bind (wpAny_standAt ?_)
  unfold unpack
  rw [hn, hstar]
  exact wpAny_bind (wpAny_holding (unpackItems_tuple_hot hot ht h))
end
section
variable {X : Cx} {pos : Pos}
theorem pg_tupH {es : List Expr} {k : Nat} {t : TGs} {n : Nat} (hc : HotC X) (h : PGs X es t)
    (hn : (assignEach es X.env).length = n := by rfl) (hst : (assignEach es X.env).findIdx? (·.1) = none := by rfl) : PG X (.Tuple es k pos) (gTup X.K n t) := by
  refine ⟨fun pins s σ H v u Q I r hw => ?_⟩
  obtain ⟨a, xs, e1, hq, hl, hw⟩ := hw
  subst e1
  cases r
  obtain ⟨its, rv, ht, hz⟩ := I.tuple hq
  obtain ⟨x1, hot⟩ := hc.at I
  refine assign_Tuple_hot hot ht (by simp [hn, ← hl, rv.length]) hst fun h' hx => ?_
  have I1 : Inv X pins σ H { s with heap := h' } := I.kept (t' := s.toks) fun b o e => hx b o (Nat.ne_of_lt (Heap.lt_size e)) e
  exact h.run pins _ σ H xs _ Q I1 (by simpa using rv) hw
end
/-! ### a list walked -/
theorem turn_listH {P : Program} {w : World} {K : PySem.W.Frag} {tg : Expr} (a it : Addr) : TurnH P w K tg (Itl K a) [it] it (fun i h => h.IsListIter it a i) where
  mem := by simp
  obj := fun i h st b hb => by
    have e : b = it := by simpa using hb
    subst e
    obtain ⟨o, e, c, d⟩ := st
    exact ⟨o, e, fun v z => by rw [d] at z; cases z⟩
  keep := fun i h h' st k => st.at fun o e => k it (by simp) o e
  item := by
    intro X hP hw hK hc i pins s σ H E I hf st hg
    subst hP hw hK
    obtain ⟨xs, x, hq, hx⟩ := hg
    obtain ⟨its, rv, p, hz⟩ := I.list hq
    obtain ⟨u, hu, ru⟩ := rv.get hx
    obtain ⟨f0, f1, f2, f3, f4, f5⟩ := hf it (by simp)
    refine wpAny_pyNext_list_item st p.isList (x := u) (by simpa using hu) fun h' st' sb => ?_
    have I1 : Inv X pins σ H { s with heap := h' } := I.turned (t' := s.toks) (fun b o hb e => (sb.2 b hb).trans e) f0 f1 f3 f4 f5
    obtain ⟨o, e, c, d⟩ := id st'
    exact ⟨u, rfl, go_of (s := { s with heap := h' }) e c d (by decide) ⟨x, H, I1, ru, ⟨rfl, fun ys hy => by rw [I.list_inj hy hq]; exact hx⟩, st', fun b hb => (hf b hb).1⟩⟩
  done := by
    intro X hP hw hK hc i pins s σ H E I hf st hg
    subst hP hw hK
    obtain ⟨xs, hq, hx⟩ := hg
    obtain ⟨its, rv, p, hz⟩ := I.list hq
    obtain ⟨f0, f1, f2, f3, f4, f5⟩ := hf it (by simp)
    have hl := rv.length
    obtain ⟨x1, hot⟩ := hc.at I
    exact next_list_end_hot hot st p.isList (by simp; omega) fun h' eb => ⟨rfl, I.turned (t' := s.toks) (fun b o hb e => eb b o hb e) f0 f1 f3 f4 f5⟩
  self := fun _ _ _ _ _ st h => wpAny_pyIter_listiter st h
theorem pi_listH {X : Cx} {tg l : Expr} {tl : TE} (hl : PE X l tl) : PIH X tg l (iList X.K tl) := by
  refine ⟨fun pins s σ H R I h => ?_⟩
  refine thn (hl.run pins s σ H _ I h) fun v s1 ⟨x, H1, I1, r1, q1⟩ => ?_
  obtain ⟨a, e, ⟨xs, hq⟩, q⟩ := q1
  subst e
  cases r1
  obtain ⟨its, rv, p, hz⟩ := I1.list hq
  refine wpAny_pyIter_list p.isList ?_
  refine ⟨s1.heap.objs.size, [s1.heap.objs.size], _, _, H1, rfl, I1.kept (t' := s1.toks) fun b o e => Heap.get?_push_of_some _ e, turn_listH a _, ⟨_, Heap.get?_push_size _ rfl, rfl, rfl⟩, fun b hb => ?_, q⟩
  have e : b = s1.heap.objs.size := by simpa using hb
  subst e
  exact I1.fpOk (Nat.le_refl _) (I1.hok.fresh (Nat.le_refl _))
/-! ### a list comprehension -/
/-- a block's context that bears the pins on -/
abbrev blkH (X : Cx) (s : Shared) (H : Hp) (scope : Scope) (cenv : Env) (fp : List Addr) : Cx := { X.blk s H scope cenv fp with pn := X.pn }
theorem hotBlk {X : Cx} {s : Shared} {H : Hp} {scope : Scope} {cenv : Env} {fp : List Addr} (h : HotC X) : HotC (blkH X s H scope cenv fp) := h
theorem block_startH {X : Cx} {pins : List (Addr × Obj)} {σ : L2.St} {H : Hp} {s : Shared} {scope : Scope} {own : List (Str × Nat)} {fp : List Addr} (I : Inv X pins σ H s) (ok : BlkOk X.N X.env.scope scope own) (hN : X.N.Nodup) (hfp : ∀ b ∈ fp, FpOk X pins H b ∧ b < s.heap.objs.size) :
    Inv (blkH X s H scope (compEnvC scope (cellsFrom (s.heap.objs.size + 1) scope.names (cloFrom X.env.cells scope.names [])) s.heap.objs.size X.env) fp) [] (wipe σ (own.map (·.2))) H { s with heap := pushCells (s.heap.push { cls := .type "dict", data := .dict #[] }) scope.names } := by
  have B := block_start I ok hN hfp
  have kp : ∀ b o, s.heap.get? b = some o → (pushCells (s.heap.push { cls := .type "dict", data := .dict #[] }) scope.names).get? b = some o := fun b o e => pushCells_keeps _ _ _ _ (Heap.get?_push_of_some _ e)
  have o := B.ok
  refine ⟨⟨o.mod, o.kind, o.glob, o.blt, o.above, o.inj, o.has, o.cab, o.hd, o.frames, o.stk, o.exf, o.bs, o.bsz, o.noex, o.exfs, o.funs, o.frf⟩, B.os, B.bare, B.base, B.loc, B.cell, B.free, B.freeC, fun p hp => ?_, B.hok, B.len⟩
  have hp' : p ∈ X.pn := by
    rcases List.mem_append.mp hp with z | z
    · exact z
    · exact absurd z (by simp)
  obtain ⟨e, n, ne, nf, d⟩ := I.pin p (List.mem_append_left _ hp')
  refine ⟨kp _ _ e, n, Nat.ne_of_lt (Heap.lt_size e), fun hm => ?_, d⟩
  exact (List.mem_cons.mp (I.stkSub p.1 hm)).elim ne nf
section
variable {X : Cx}
theorem lc_coreH {pins : List (Addr × Obj)} {s : Shared} {σ : L2.St} {H : Hp} {Q : VK} {elt tg iter : Expr} {ifs : List Expr} {scope : Scope} {own : List (Str × Nat)} {pos pos' : Pos} {wi : TI} {g : TG} {tt : TT} {te : TE} {use : Option (Value → Sem Unit)} {Qf : Value → Shared → Prop}
    (hc : HotC X) (hN : X.N.Nodup) (I : Inv X pins σ H s) (hi : PIH X tg iter wi) (ok : BlkOk X.N X.env.scope scope own)
    (hg : ∀ (s : Shared) (H : Hp) (C : Addr) (cl : List (Str × Addr)) (fp : List Addr), PG (blkH X s H scope (compEnvC scope cl C X.env) fp) tg g) (ht : ∀ (s : Shared) (H : Hp) (C : Addr) (cl : List (Str × Addr)) (fp : List Addr), PTs (blkH X s H scope (compEnvC scope cl C X.env) fp) ifs tt)
    (he : ∀ (s : Shared) (H : Hp) (C : Addr) (cl : List (Str × Addr)) (fp : List Addr), PE (blkH X s H scope (compEnvC scope cl C X.env) fp) elt te) (hs : ∀ x, foldedSetIterable iter X.env x = pure x)
    (h : tLc wi g tt te (own.map (·.2)) σ H Q)
    (hRR : ∀ D C s' m H', Inv X pins σ H' s' → Q (.ref D) H' → s'.heap.Ns C m → FpOk X pins H' C → compPost (model X.prog X.w) X.A X.xe use Qf (.ref D) C (.ok .next) s') :
    wpAny (model X.prog X.w) X.A (comprehension (.ListComp elt [⟨tg, iter, ifs, 0⟩] scope pos) scope X.env pos' (newList []) false (eval iter X.env) use) Qf X.xe s := by
  have hfree : ∀ y ∈ scope.names, y.2 = .free → ∃ c, X.env.cells.lookup y.1 = some c := fun y hy e => by
    rcases ok.free y hy e with k | k
    · exact I.ok.has _ (.inl k)
    · exact I.ok.has _ (.inr k)
  refine wpAny_comprehension_free (use := use) rfl hs (closure_ok hfree) ok.kind (fun y hy e => by rw [ok.uniq y hy, e])
    (thn (hi.run pins s σ H _ I h) fun xv s1 hx => thn hx fun itv s2 h2 => ?_)
  obtain ⟨it, fp, tn, J, H2, e, I2, T, st2, f2, q⟩ := h2
  subst e
  refine wpAny_newObj_type (newEnv_comp ?_) (by show 0 ≤ sizeLine; decide)
  generalize hD : s2.heap.objs.size = D
  have hDn : H2 D = none := I2.hok.fresh (Nat.le_of_eq hD)
  obtain ⟨W, ⟨m0, w0⟩, turn⟩ := q D hDn
  generalize hs3 : ({ s2 with heap := s2.heap.push { cls := .type "list", data := .seq ([] : List Value).toArray } } : Shared) = s3
  have I3 : Inv X pins σ (upd H2 D (.lst [])) s3 := by
    rw [← hs3]
    refine I2.laid (t' := s2.toks) (fun b o e => Heap.get?_push_of_some _ e) (Nat.le_of_eq hD) ⟨Nat.zero_le _, [], 0, .nil, ?_⟩
    rw [← hD]
    exact Heap.get?_push_size _ rfl
  have h3 : s3.heap = s2.heap.push { cls := .type "list", data := .seq ([] : List Value).toArray } := by rw [← hs3]
  have sz : ∀ b ∈ fp, b < s2.heap.objs.size := fun b hb => by
    obtain ⟨o, e, _⟩ := T.obj _ _ st2 b hb
    exact Heap.lt_size e
  have f3 : ∀ b ∈ fp, FpOk X pins (upd H2 D (.lst [])) b ∧ b < s3.heap.objs.size := fun b hb => by
    have hlt := sz b hb
    refine ⟨⟨?_, (f2 b hb).2⟩, by rw [h3, Heap.size_push]; exact Nat.lt_succ_of_lt hlt⟩
    rw [upd_ne (by rw [← hD]; exact Nat.ne_of_lt hlt)]
    exact (f2 b hb).1
  have st3 : tn 0 s3.heap := T.keep _ _ _ st2 fun b _ o e => by rw [h3]; exact Heap.get?_push_of_some _ e
  have I4 := block_startH I3 ok hN f3
  have pg := hg s3 (upd H2 D (.lst [])) s3.heap.objs.size (cellsFrom (s3.heap.objs.size + 1) scope.names (cloFrom X.env.cells scope.names [])) fp
  have pt := ht s3 (upd H2 D (.lst [])) s3.heap.objs.size (cellsFrom (s3.heap.objs.size + 1) scope.names (cloFrom X.env.cells scope.names [])) fp
  have pe := he s3 (upd H2 D (.lst [])) s3.heap.objs.size (cellsFrom (s3.heap.objs.size + 1) scope.names (cloFrom X.env.cells scope.names [])) fp
  show codeAny _ _ (.compStart (.ListComp elt [⟨tg, iter, ifs, 0⟩] scope pos) 0 (.ref it) (.ref D) (compEnvC scope (cellsFrom (s3.heap.objs.size + 1) scope.names (cloFrom X.env.cells scope.names [])) s3.heap.objs.size X.env)) (compPost (model X.prog X.w) X.A X.xe use Qf (.ref D) s3.heap.objs.size) { s3 with heap := pushCells (s3.heap.push { cls := .type "dict", data := .dict #[] }) scope.names }
  have nfp : ∀ b ∈ fp, (upd H2 D (.lst [])) b = none := fun b hb => (f3 b hb).1.1
  generalize hce : compEnvC scope (cellsFrom (s3.heap.objs.size + 1) scope.names (cloFrom X.env.cells scope.names [])) s3.heap.objs.size X.env = ce at I4 pg pt pe ⊢
  have cL : ce.locals = s3.heap.objs.size := by subst hce; rfl
  generalize hH3 : upd H2 D (.lst []) = H3 at I3 I4 pg pt pe w0 nfp f3
  generalize hs4 : ({ s3 with heap := pushCells (s3.heap.push { cls := .type "dict", data := .dict #[] }) scope.names } : Shared) = s4 at I4 ⊢
  have st4 : tn 0 s4.heap := T.keep _ _ _ st3 fun b _ o e => by rw [← hs4]; exact pushCells_keeps _ _ _ _ (Heap.get?_push_of_some _ e)
  have stat : ∀ {σ' : L2.St} {H' : Hp} {s' : Shared}, Inv (blkH X s3 H3 scope ce fp) [] σ' H' s' → (∀ b ∈ fp, H' b = none) → ∀ b ∈ fp, FpOk (blkH X s3 H3 scope ce fp) [] H' b := fun {σ' H' s'} I' hn b hb =>
    ⟨hn b hb, (I'.ok.exf b hb).1, I'.ok.exfs b hb, .inl hb, fun x c e => (I'.ok.exf b hb).2 x c e, fun p hp => (f3 b hb).1.2.2.2.2.2 p (by
      rcases List.mem_append.mp hp with z | z
      · exact List.mem_append_left _ z
      · exact absurd z (by simp))⟩
  have hcB : HotC (blkH X s3 H3 scope ce fp) := hc
  have loop : codeAny (model X.prog X.w) X.A (.compLoop (.ListComp elt [⟨tg, iter, ifs, 0⟩] scope pos) 0 (.ref it) (.ref D) ce) (compPost (model X.prog X.w) X.A X.xe use Qf (.ref D) s3.heap.objs.size) s4 := by
    refine compLoop_any (fun n s' => ∃ i H', Inv (blkH X s3 H3 scope ce fp) [] (wipe σ (own.map (·.2))) H' s' ∧ tn i s'.heap ∧ (∀ b ∈ fp, H' b = none) ∧ W i n H') ?_ m0 ⟨0, H3, I4, st4, nfp, w0⟩
    rintro n s5 ⟨i, H5, I5, st5, n5, w5⟩
    rcases turn i n H5 w5 with ⟨stop, qq⟩ | ⟨go, Nx, hNx, step⟩
    · have td := T.done (blkH X s3 H3 scope ce fp) rfl rfl rfl hcB i [] s5 _ H5 (fun _ _ => False) I5 (stat I5 n5) st5 stop
      refine thnF td fun r s6 ⟨hr, I6⟩ => ?_
      subst hr
      have I7 : Inv X pins σ H5 s6 := I3.call' (ch := fp) I6.os I6.base I6.hok I6.bare fun b hb => ⟨(f3 b hb).1.2.2.2.1, (f3 b hb).1.2.1, (f3 b hb).1.2.2.2.2.1, (f3 b hb).1.2.2.2.2.2⟩
      have nC : H5 s3.heap.objs.size = none := by
        have z : H5 ce.locals = none := I6.free
        rw [cL] at z
        exact z
      obtain ⟨m, hn, _⟩ := I6.loc
      have hn : s6.heap.Ns ce.locals m := hn
      rw [cL] at hn
      exact hRR D s3.heap.objs.size s6 m H5 I7 qq hn (I3.fpOk (Nat.le_refl _) nC)
    · have ti := T.item (blkH X s3 H3 scope ce fp) rfl rfl rfl hcB i [] s5 _ H5 (fun _ _ => False) I5 (stat I5 n5) st5 go
      refine thnF ti fun r s6 ⟨u, hr, h6⟩ => ?_
      subst hr
      refine thnF h6 fun _ s7 ⟨x, H7, I7, r7, y7, st7, n7⟩ => ?_
      have I7' := I7.pinned (stat I7 n7) (T.obj _ _ st7)
      refine thnF (pg.run _ s7 _ H7 x u _ I7' r7 (step x H7 y7)) fun _ s8 ⟨σ8, H8, I8, hw8, q8⟩ => ?_
      refine thnF (pt.run _ s8 σ8 H8 _ I8 q8) fun b s9 ⟨H9, I9, q9⟩ => ?_
      have fin : ∀ {s' : Shared} {H' : Hp}, Inv (blkH X s3 H3 scope ce fp) ([] ++ pinsAt fp s7.heap) σ8 H' s' → Nx H' → ∃ m, m < n ∧ ∃ i H', Inv (blkH X s3 H3 scope ce fp) [] (wipe σ (own.map (·.2))) H' s' ∧ tn i s'.heap ∧ (∀ b ∈ fp, H' b = none) ∧ W i m H' := fun {s' H'} I' nx => by
        obtain ⟨m', hm, w'⟩ := hNx H' nx
        have pin' : ∀ b ∈ fp, ∀ o, s7.heap.get? b = some o → s'.heap.get? b = some o ∧ H' b = none := fun b hb o e =>
          let z := I'.pin (b, o) (List.mem_append_right _ (List.mem_append_right _ (mem_pinsAt hb e)))
          ⟨z.1, z.2.1⟩
        have hl : (wipe σ (own.map (·.2))).length = σ8.length := by rw [← hw8, wipe_length]
        refine ⟨m', hm, i + 1, H', (I'.unpinned (pins := [])).weak hl (fun j v e => ?_), T.keep _ _ _ st7 fun b hb o e => (pin' b hb o e).1, fun b hb => ?_, w'⟩
        · rw [← hw8] at e
          exact (wipe_some e).1
        · obtain ⟨o, e, _⟩ := T.obj _ _ st7 b hb
          exact (pin' b hb o e).2
      cases b with
      | false =>
        simp only [Bool.false_eq_true, if_false] at q9 ⊢
        exact fin I9 q9
      | true =>
        simp only [if_true] at q9 ⊢
        refine thnF (pe.run _ s9 σ8 H9 _ I9 q9) fun z s10 ⟨yv, H10, I10, r10, acc, hD10, hz10, nx⟩ => ?_
        exact app_ok (X := blkH X s3 H3 scope ce fp) I10 hD10 hz10 r10 fun s11 I11 => fin I11 nx
  exact codeAny_compStart_list loop (T.self X.A 0 _ _ _ st4 loop)
theorem pe_lcH {elt tg iter : Expr} {ifs : List Expr} {scope : Scope} {own : List (Str × Nat)} {pos : Pos} {wi : TI} {g : TG} {tt : TT} {te : TE} (hc : HotC X) (hN : X.N.Nodup) (hi : PIH X tg iter wi) (ok : BlkOk X.N X.env.scope scope own)
    (hg : ∀ (s : Shared) (H : Hp) (C : Addr) (cl : List (Str × Addr)) (fp : List Addr), PG (blkH X s H scope (compEnvC scope cl C X.env) fp) tg g) (ht : ∀ (s : Shared) (H : Hp) (C : Addr) (cl : List (Str × Addr)) (fp : List Addr), PTs (blkH X s H scope (compEnvC scope cl C X.env) fp) ifs tt)
    (he : ∀ (s : Shared) (H : Hp) (C : Addr) (cl : List (Str × Addr)) (fp : List Addr), PE (blkH X s H scope (compEnvC scope cl C X.env) fp) elt te) (hs : ∀ x, foldedSetIterable iter X.env x = pure x := by intro _; rfl) :
    PE X (.ListComp elt [⟨tg, iter, ifs, 0⟩] scope pos) (tLc wi g tt te (own.map (·.2))) := by
  refine ⟨fun pins s σ H Q I h => ?_⟩
  rw [eval_ListComp]
  refine lc_coreH hc hN I hi ok hg ht he hs h fun D C s' m H' I' q hn f => ⟨m, hn, fun h'' sb => ?_⟩
  obtain ⟨f0, f1, f2, f3, f4, f5⟩ := f
  exact ⟨.ref D, H', I'.turned (t' := s'.toks) (fun b o hb e => (sb.2 b hb).trans e) f0 f1 f3 f4 f5, rfl, q⟩
end
end FxH

namespace Fx
open PySem PySem.Spec L2 L2H FxH
open PyProof.Rows hiding St

/-! ### within an except suite -/
abbrev BlkH (X : Cx) (scope : Scope) (p : Cx → Prop) : Prop := ∀ (s : Shared) (H : Hp) (C : Addr) (cl : List (Str × Addr)) (fp : List Addr), p (blkH X s H scope (compEnvC scope cl C X.env) fp)
section
variable {X : Cx} {scope : Scope} {elt tg c : Expr} {Fe : EF} {T : TF} {g : GF} {sl : List Nat}
theorem blkH_e (h : BlkH X scope fun Y => FE Y W0 elt Fe) : ∃ te, (BlkH X scope fun Y => PE Y elt te) ∧ ∀ σ H G ad ρ st Q, RepS (wd X) G ad st H → RepL (wd X) G ad ρ σ → Post X W0 G ad H σ (relW X) (Fe ρ st) Q → te σ H Q := by
  refine ⟨fun σ H Q => ∀ (s : Shared) (H0 : Hp) (C : Addr) (cl : List (Str × Addr)) (fp : List Addr), Classical.choose (h s H0 C cl fp) σ H Q, fun s H0 C cl fp => ⟨fun pins s1 σ H Q I q => (Classical.choose_spec (h s H0 C cl fp)).1.run pins s1 σ H Q I (q s H0 C cl fp)⟩, fun σ H G ad ρ st Q rs rl hp s H0 C cl fp => ?_⟩
  exact (Classical.choose_spec (h s H0 C cl fp)).2 σ H G ad ρ st Q rs rl hp
theorem blkH_t {ifs : List Expr} (h : BlkH X scope fun Y => FTs Y W0 ifs T) : ∃ tt, (BlkH X scope fun Y => PTs Y ifs tt) ∧ ∀ σ H G ad ρ st Q, RepS (wd X) G ad st H → RepL (wd X) G ad ρ σ → Post X W0 G ad H σ relB (T ρ st) Q → tt σ H Q := by
  refine ⟨fun σ H Q => ∀ (s : Shared) (H0 : Hp) (C : Addr) (cl : List (Str × Addr)) (fp : List Addr), Classical.choose (h s H0 C cl fp) σ H Q, fun s H0 C cl fp => ⟨fun pins s1 σ H Q I q => (Classical.choose_spec (h s H0 C cl fp)).1.run pins s1 σ H Q I (q s H0 C cl fp)⟩, fun σ H G ad ρ st Q rs rl hp s H0 C cl fp => ?_⟩
  exact (Classical.choose_spec (h s H0 C cl fp)).2 σ H G ad ρ st Q rs rl hp
theorem blkH_g (h : BlkH X scope fun Y => FG Y tg g sl) : ∃ tg', (BlkH X scope fun Y => PG Y tg tg') ∧ ∀ v w σ H G ad ρ st ρ' Q, RepS (wd X) G ad st H → RepL (wd X) G ad ρ σ → Wv (wd X) G ad v w → g w ρ st = some ρ' → (∀ σ', But sl σ σ' → RepL (wd X) G ad ρ' σ' → Q σ' H) → tg' v σ H Q := by
  refine ⟨fun v σ H Q => ∀ (s : Shared) (H0 : Hp) (C : Addr) (cl : List (Str × Addr)) (fp : List Addr), Classical.choose (h s H0 C cl fp) v σ H Q, fun s H0 C cl fp => ⟨fun pins s1 σ H v u Q I r q => (Classical.choose_spec (h s H0 C cl fp)).1.run pins s1 σ H v u Q I r (q s H0 C cl fp)⟩, fun v w σ H G ad ρ st ρ' Q rs rl rv e hp s H0 C cl fp => ?_⟩
  exact (Classical.choose_spec (h s H0 C cl fp)).2 v w σ H G ad ρ st ρ' Q rs rl rv e hp
end
def FIH (X : Cx) (Wx : WX) (tg iter : Expr) (F : AF) : Prop := ∃ wi : TI, PIH X tg iter wi ∧ ∀ σ H G ad ρ st (Q : It → Hp → Prop), RepS (wd X) G ad st H → RepL (wd X) G ad ρ σ →
  Post X Wx G ad H σ (fun G' ad' (J : It) ws => Iters (wd X) G' ad' J ws) (F ρ st) Q → wi σ H Q
def iLstF (a : EF) : AF := fun ρ st => (a ρ st).bind fun w st => match frz w st with | some (.list ds, st) => .ok (ds.map .d) st | _ => .bad
section
variable {X : Cx} {Wx : WX} {e tg : Expr} {Fe : EF} {pos : Pos}
theorem fi_lstH (he : FE X Wx e Fe) : FIH X Wx tg e (iLstF Fe) := by
  obtain ⟨t, q, k⟩ := he
  refine ⟨_, pi_listH q, fun σ H G ad ρ st Q rs rl h => ?_⟩
  refine k σ H G ad ρ st _ rs rl (Post.bind h fun w st1 v G1 ad1 H1 _ s1 rs1 rv q1 => ?_)
  cases ef : frz w st1 with
  | none => rw [ef] at q1; exact q1.elim
  | some p =>
    obtain ⟨x, st2⟩ := p
    rw [ef] at q1
    cases x with
    | list ds =>
      obtain ⟨G2, s2, rs2, d2⟩ := frz_ok rs1 rv ef
      have cv : ∀ {vs : List V}, DvAll (wd X) G2 vs ds → ∀ (i : Nat) w, (ds.map W.d)[i]? = some w → ∃ v, vs[i]? = some v ∧ Wv (wd X) G2 ad1 v w := fun {vs} r i w e => by
        rw [List.getElem?_map] at e
        cases en : ds[i]? with
        | none => rw [en] at e; cases e
        | some d => rw [en] at e; cases e; obtain ⟨v, h1, h2⟩ := r.get en; exact ⟨v, h1, .d h2⟩
      cases d2 with
      | @lst a xs _ hx ra =>
        have rd : ∀ G3 H3, Le G2 G3 → Le G3 H3 → SqL X.K H3 a xs := fun G3 H3 g s => Le.sqL s (Le.sqL g hx)
        have q2 := q1.mono s2
        exact ⟨a, rfl, ⟨xs, rd G2 H1 Le.refl rs2.sub⟩, q2 _ G2 ad1 H1 .refl rs2 (iters_seq (vs := xs) (by rw [List.length_map]; exact ra.length) (cv ra) fun G3 H3 g s => ⟨fun i hi => ⟨xs, xs[i], rd G3 H3 g s, List.getElem?_eq_getElem hi⟩, fun i x H' hi y => ⟨y.1, y.2 xs (rd G3 H3 g s)⟩, ⟨xs, rd G3 H3 g s, Nat.le_refl _⟩⟩)⟩
    | _ => exact q1.elim
theorem fg_tupH {es : List Expr} {j : Nat} {k : GsF} {n : Nat} {sl : List Nat} (hc : HotC X) (h : FGs X es k sl) (hn : (assignEach es X.env).length = n := by rfl) (hst : (assignEach es X.env).findIdx? (·.1) = none := by rfl) : FG X (.Tuple es j pos) (gT n k) sl := by
  obtain ⟨t, p, q⟩ := h
  refine ⟨_, pg_tupH hc p hn hst, fun v w σ H G ad ρ st ρ' Q rs rl rv e h => ?_⟩
  unfold gT at e
  split at e
  · rename_i ds e1
    split at e
    · rename_i hl
      obtain ⟨a, vs, rfl, s1, r1, _⟩ := der_tup rs rv e1
      exact ⟨a, vs, rfl, s1, by rw [r1.length]; exact hl, q vs ds σ H G ad ρ st ρ' Q rs rl r1 e h⟩
    · cases e
  · cases e
end
section
variable {X : Cx} {Wx : WX} {elt tg iter : Expr} {ifs : List Expr} {scope : Scope} {own : List (Str × Nat)} {FI' : AF} {g : GF} {sl : List Nat} {T : TF} {Fe : EF} {pos : Pos}
theorem fe_lcHot (hc : HotC X) (hN : X.N.Nodup) (hi : FIH X Wx tg iter FI') (ok : BlkOk X.N X.env.scope scope own) (hg : BlkH X scope fun Y => FG Y tg g sl) (ht : BlkH X scope fun Y => FTs Y W0 ifs T) (he : BlkH X scope fun Y => FE Y W0 elt Fe) (hsl : ∀ i ∈ sl, i ∈ own.map (·.2))
    (hs : ∀ x, foldedSetIterable iter X.env x = pure x := by intro _; rfl) : FE X Wx (.ListComp elt [⟨tg, iter, ifs, 0⟩] scope pos) (cLc FI' (own.map (·.2)) g T Fe) := by
  obtain ⟨wi, pi, ki⟩ := hi
  obtain ⟨tg', pg, kg⟩ := blkH_g hg
  obtain ⟨tt, pt, kt⟩ := blkH_t ht
  obtain ⟨te, pe, ke⟩ := blkH_e he
  refine ⟨_, pe_lcH hc hN pi ok pg pt pe hs, fun σ H G ad ρ st Q rs rl h => ?_⟩
  refine ki σ H G ad ρ st _ rs rl (Post.bind h fun ws st1 J G1 ad1 H1 _ s1 rs1 rJ q => ?_)
  split at q
  · rename_i hz
    exact lc_read kg kt ke hsl rs1 (rl.step s1) rJ hz q
  · exact q.elim
end
/-- a + b, two lists, the sum behind a handle -/
def gAddH (w z : W) (st : Sto) : R W := match der st w with
  | some (.list xs) => (match der st z with
    | some (.list ys) => if xs.length + ys.length ≤ sizeLine then .ok (.h st.length) (st ++ [⟨true, .lst (xs ++ ys)⟩]) else .bad
    | _ => .bad)
  | _ => .bad
section
variable {X : Cx} {Wx : WX} {a b : Expr} {Fa Fb : EF} {pos : Pos}
theorem o_addH : Op2 X Wx gAddH (rCatR X.K) := by
  intro σ H G ad st v w u z Q rs rv ru h
  unfold gAddH at h
  split at h
  · rename_i xs e1
    split at h
    · rename_i ys e2
      split at h
      · rename_i hz
        obtain ⟨p, vs, rfl, s1, r1⟩ := der_lst rs rv e1
        obtain ⟨q, us, rfl, s2, r2⟩ := der_lst rs ru e2
        refine ⟨p, q, vs, us, rfl, rfl, s1, s2, by rw [r1.length, r2.length]; exact hz, fun c hc => ?_⟩
        have rs2 := rs.newH (c := .lst (xs ++ ys)) (o := .lst (vs ++ us)) hc ⟨rs.sub.none hc, vs ++ us, upd_same, r1.append r2⟩
        exact h _ G _ _ (Step.newH hc) rs2 (.h (by rw [rs.len]; simp))
      · exact h.elim
    · exact h.elim
  · exact h.elim
theorem fe_addH (ha : FE X Wx a Fa) (hb : FE X Wx b Fb) : FE X Wx (.BinOp a .Add b pos) (c2 gAddH Fa Fb) := fe_2 o_addH ha hb fun _ _ p q => pe_op op_catR p q
end
/-! ### isinstance of the exception that is handled -/
/-- what the module says of the class c: it is a WheelError and a ValueError; of the classes ts, which it is -/
def KitAll (K : PySem.W.Frag) (C : Addr) : List (Str × Bool) → Prop
  | [] => True
  | (t, b) :: r => (∃ D, PySem.W.nsIn K mainGlobals t = some (some (.ref D)) ∧ PySem.W.kitOne K (.ref C) (.ref D) = some b) ∧ KitAll K C r
def ErrAt (K : PySem.W.Frag) (c wE : Str) (ts : List (Str × Bool)) : Prop := ∃ C E, PySem.W.nsIn K mainGlobals c = some (some (.ref C)) ∧ PySem.W.nsIn K mainGlobals wE = some (some (.ref E)) ∧ ExcC K C ∧ PySem.W.exmOne K (.ref C) (.ref E) = some true ∧ PySem.W.kitOne K (.ref C) (.type "ValueError") = some true ∧ KitAll K C ts
section
variable {K : PySem.W.Frag} {C D E : Addr} {c t wE : Str} {b : Bool} {r ts : List (Str × Bool)}
theorem KitAll.nil : KitAll K C [] := trivial
theorem kit_own (h2 : PySem.W.subIn K (.ref C) (.ref D) = some b) (h3 : PySem.W.hasDictIn K D = true) (h4 : PySem.W.typeIn K (.ref D) = some (.type "type")) (h5 : C ≠ D ∨ b = true) : PySem.W.kitOne K (.ref C) (.ref D) = some b := by
  obtain ⟨cd, hc, _⟩ := PySem.W.any_some h3
  have e2 : ((PySem.W.clsIn K D).isSome && PySem.W.typeIn K (.ref D) == some (.type "type")) = true := by rw [hc, h4] <;> rfl
  have e3 : PySem.W.kitCls K (.ref C) (.ref D) = some b := by
    show (if ((PySem.W.clsIn K D).isSome && PySem.W.typeIn K (.ref D) == some (.type "type")) = true then PySem.W.subIn K (.ref C) (.ref D) else none) = some b
    rw [if_pos e2]; exact h2
  unfold PySem.W.kitOne
  by_cases q : (Value.ref C == Value.ref D) = true
  · rw [if_pos q]
    have : C = D := Value.ref.inj (beq_iff_eq.mp q)
    rcases h5 with h5 | h5
    · exact absurd this h5
    · rw [h5]
  · rw [if_neg q]; exact e3
theorem KitAll.cons (h1 : PySem.W.nsIn K mainGlobals t = some (some (.ref D))) (h2 : PySem.W.subIn K (.ref C) (.ref D) = some b) (h3 : PySem.W.hasDictIn K D = true) (h4 : PySem.W.typeIn K (.ref D) = some (.type "type")) (h5 : C ≠ D ∨ b = true) (k : KitAll K C r) : KitAll K C ((t, b) :: r) := ⟨⟨D, h1, kit_own h2 h3 h4 h5⟩, k⟩
theorem ErrAt.mk (h1 : PySem.W.nsIn K mainGlobals c = some (some (.ref C))) (h2 : PySem.W.nsIn K mainGlobals wE = some (some (.ref E)))
    (e1 : PySem.W.findIn K (.ref C) "__getattribute__" = some (some (.builtin "BaseException.__getattribute__"))) (e2 : PySem.W.findIn K (.ref C) "__getattr__" = some none) (e3 : PySem.W.subIn K (.ref C) (.type "BaseException") = some true) (e4 : PySem.W.hasDictIn K C = true)
    (e5 : PySem.W.findIn K (.ref C) "__class__" = some (some (.builtin "object.__class__"))) (e6 : PySem.W.specialIn K (.builtin "object.__class__") "__get__" = some (some (.builtin "getset_descriptor.__get__"))) (e7 : PySem.W.takesIn K (.builtin "object.__class__") = some true) (e8 : PySem.W.mroIn K C (.type "object") = some true)
    (w1 : PySem.W.subIn K (.ref E) (.type "BaseException") = some true) (w2 : PySem.W.hasDictIn K E = true) (w3 : PySem.W.typeIn K (.ref E) = some (.type "type")) (w4 : PySem.W.subIn K (.ref C) (.ref E) = some true)
    (v1 : PySem.W.subIn K (.ref C) (.type "ValueError") = some true) (h5 : KitAll K C ts) : ErrAt K c wE ts := by
  refine ⟨C, E, h1, h2, ⟨e1, e2, e3, e4, e5, e6, e7, e8⟩, PySem.W.exm_ref w1 w2 w3 w4, ?_, h5⟩
  unfold PySem.W.kitOne
  rw [if_neg (by intro q; exact absurd (beq_iff_eq.mp q) (by intro z; cases z))]
  show (if PySem.W.kitMeta "ValueError" = true then PySem.W.subIn K (.ref C) (.type "ValueError") else none) = some true
  rw [if_pos (by decide)]; exact v1
end
/-- .. read off the module's names -/
def KitAllK (K : PySem.W.Frag) (mg : Str → Option Value) (C : Addr) : List (Str × Bool) → Prop
  | [] => True
  | (t, b) :: r => (∃ D, mg t = some (.ref D) ∧ PySem.W.kitOne K (.ref C) (.ref D) = some b) ∧ KitAllK K mg C r
def ErrK (K : PySem.W.Frag) (mg : Str → Option Value) (c wE : Str) (ts : List (Str × Bool)) : Prop := ∃ C E, mg c = some (.ref C) ∧ mg wE = some (.ref E) ∧ ExcC K C ∧ PySem.W.exmOne K (.ref C) (.ref E) = some true ∧ PySem.W.kitOne K (.ref C) (.type "ValueError") = some true ∧ KitAllK K mg C ts
theorem KitAll.ok {K : PySem.W.Frag} {mg : Str → Option Value} {h : Heap} {C : Addr} (X : K.In h) (G : h.Ns mainGlobals mg) : ∀ {ts : List (Str × Bool)}, KitAll K C ts → KitAllK K mg C ts
  | [], _ => trivial
  | (t, b) :: r, ⟨⟨D, h1, h2⟩, k⟩ => ⟨⟨D, PySem.W.mg_of X G h1, h2⟩, KitAll.ok X G k⟩
theorem ErrAt.ok {K : PySem.W.Frag} {mg : Str → Option Value} {h : Heap} {c wE : Str} {ts : List (Str × Bool)} (X : K.In h) (G : h.Ns mainGlobals mg) (D : ErrAt K c wE ts) : ErrK K mg c wE ts := by
  obtain ⟨C, E, h1, h2, h3, h4, h5, h6⟩ := D
  exact ⟨C, E, PySem.W.mg_of X G h1, PySem.W.mg_of X G h2, h3, h4, h5, h6.ok X G⟩
theorem KitAllK.get {K : PySem.W.Frag} {mg : Str → Option Value} {C : Addr} : ∀ {ts : List (Str × Bool)} {t : Str} {b : Bool}, KitAllK K mg C ts → ts.lookup t = some b → ∃ D, mg t = some (.ref D) ∧ PySem.W.kitOne K (.ref C) (.ref D) = some b
  | (u, d) :: r, t, b, h, e => by
    rw [List.lookup_cons] at e
    by_cases q : t = u
    · subst q
      simp only [beq_self_eq_true] at e
      cases e
      exact h.1
    · have q' : (t == u) = false := by simpa using q
      rw [q'] at e
      exact KitAllK.get h.2 e
/-- isinstance(e, T) -/
def cIsE (i : Nat) (a : Addr) (b : Bool) : EF := fun ρ st => match ρ[i]? with | some (some (.fn a')) => if a' = a then .ok (.d (.bool b)) st else .bad | _ => .bad
section
variable {X : Cx} {Wx : WX} {a C : Addr} {oe : Obj} {pn : List (Addr × Obj)} {i : Nat} {x t : Str} {p p1 p2 pos : Pos}
theorem fe_isE0 {v : V} {cv : Value} {b : Bool} (EC : ExcC X.K C) (hz : Zc (.ref C) none oe) (hf : ∃ vs, oe.data = .fields vs) (hN : X.N[i]? = some x) (hv : Vis X.env.scope x) (hg : Gl (X.suite a ((a, oe) :: pn)) "isinstance") (hm : X.mg "isinstance" = none)
    (pt : PE (X.suite a ((a, oe) :: pn)) (.Name t p2) (tC v)) (hcv : ∀ u, RelV v u → u = cv) (hk : PySem.W.kitOne X.K (.ref C) cv = some b) (hdb : (x == ("__debug__" : Str)) = false := by decide) (hcd : (x == ("__classdict__" : Str)) = false := by decide)
    (hs : starEach [.Name x p1, .Name t p2] X.env = (false, eval (.Name x p1) X.env) :: starEach [.Name t p2] X.env := by rfl) (hs2 : starEach [.Name t p2] X.env = (false, eval (.Name t p2) X.env) :: starEach [] X.env := by rfl) (hpl : (backTo pos (starEach [.Name t p2] X.env)).any (·.1) = false := by rfl) :
    FE (X.suite a ((a, oe) :: pn)) Wx (.Call (.Name "isinstance" p) [.Name x p1, .Name t p2] [] pos) (cIsE i a b) := by
  refine ⟨_, pe_callB (X := X.suite a ((a, oe) :: pn)) (call_isE EC hz hf) hg hm PyProof.Rows.boot_isinstance (pa_cons (X := X.suite a ((a, oe) :: pn)) (pe_var (X := X.suite a ((a, oe) :: pn)) (pos := p1) hN hv hdb hcd) (pa_cons (X := X.suite a ((a, oe) :: pn)) pt pa_nil hs2) hs) (by decide) (by decide) hs hpl, fun σ H G ad ρ st Q rs rl h => ?_⟩
  unfold cIsE at h
  generalize hq : ρ[i]? = q at h
  match q, h with
  | none, h => exact h.elim
  | some none, h => exact h.elim
  | some (some (.d _)), h => exact h.elim
  | some (some (.h _)), h => exact h.elim
  | some (some (.hs _)), h => exact h.elim
  | some (some (.fn a')), h =>
    dsimp only at h
    split at h
    · rename_i ea
      subst ea
      obtain ⟨u, e, r⟩ := rl.2 i _ hq
      cases r
      exact ⟨_, e, ⟨v, cv, b, rfl, hcv, hk, h _ G ad H .refl rs (.d (.bl b))⟩⟩
    · exact h.elim
/-- .. an own class -/
theorem fe_isE {ts : List (Str × Bool)} {c wE : Str} {b : Bool} (T : ErrK X.K X.mg c wE ts) (hC : X.mg c = some (.ref C)) (hz : Zc (.ref C) none oe) (hf : ∃ vs, oe.data = .fields vs) (hN : X.N[i]? = some x) (hv : Vis X.env.scope x) (hg : Gl (X.suite a ((a, oe) :: pn)) "isinstance") (hm : X.mg "isinstance" = none)
    (hg2 : Gl (X.suite a ((a, oe) :: pn)) t) (ht : ts.lookup t = some b) (hdb : (x == ("__debug__" : Str)) = false := by decide) (hcd : (x == ("__classdict__" : Str)) = false := by decide) (hdb2 : (t == ("__debug__" : Str)) = false := by decide)
    (hs : starEach [.Name x p1, .Name t p2] X.env = (false, eval (.Name x p1) X.env) :: starEach [.Name t p2] X.env := by rfl) (hs2 : starEach [.Name t p2] X.env = (false, eval (.Name t p2) X.env) :: starEach [] X.env := by rfl) (hpl : (backTo pos (starEach [.Name t p2] X.env)).any (·.1) = false := by rfl) :
    FE (X.suite a ((a, oe) :: pn)) Wx (.Call (.Name "isinstance" p) [.Name x p1, .Name t p2] [] pos) (cIsE i a b) := by
  obtain ⟨C', E, h1, h2, h3, h4, h5, h6⟩ := T
  rw [hC] at h1
  cases h1
  obtain ⟨D, hD, hk⟩ := h6.get ht
  exact fe_isE0 h3 hz hf hN hv hg hm (pe_glob (X := X.suite a ((a, oe) :: pn)) (v := .ref D) hg2 hD rfl hdb2) (fun u r => r) hk hdb hcd hs hs2 hpl
theorem fe_isV {ts : List (Str × Bool)} {c wE : Str} (T : ErrK X.K X.mg c wE ts) (hC : X.mg c = some (.ref C)) (hz : Zc (.ref C) none oe) (hf : ∃ vs, oe.data = .fields vs) (hN : X.N[i]? = some x) (hv : Vis X.env.scope x) (hg : Gl (X.suite a ((a, oe) :: pn)) "isinstance") (hm : X.mg "isinstance" = none)
    (hg2 : Gl (X.suite a ((a, oe) :: pn)) "ValueError") (hm2 : X.mg "ValueError" = none) (hv2 : bootBuiltins "ValueError" = some (.type "ValueError")) (hdb : (x == ("__debug__" : Str)) = false := by decide) (hcd : (x == ("__classdict__" : Str)) = false := by decide)
    (hs : starEach [.Name x p1, .Name "ValueError" p2] X.env = (false, eval (.Name x p1) X.env) :: starEach [.Name "ValueError" p2] X.env := by rfl) (hs2 : starEach [.Name "ValueError" p2] X.env = (false, eval (.Name "ValueError" p2) X.env) :: starEach [] X.env := by rfl) (hpl : (backTo pos (starEach [.Name "ValueError" p2] X.env)).any (·.1) = false := by rfl) :
    FE (X.suite a ((a, oe) :: pn)) Wx (.Call (.Name "isinstance" p) [.Name x p1, .Name "ValueError" p2] [] pos) (cIsE i a true) := by
  obtain ⟨C', E, h1, h2, h3, h4, h5, h6⟩ := T
  rw [hC] at h1
  cases h1
  exact fe_isE0 h3 hz hf hN hv hg hm (pe_bltn (X := X.suite a ((a, oe) :: pn)) (v := .ty "ValueError") hg2 hm2 hv2 rfl (by decide) (by decide)) (fun u r => r) h5 hdb hcd hs hs2 hpl
end
theorem hot_suite {X : Cx} {a : Addr} {oe : Obj} {cls : Value} {d : Option Addr} {pn : List (Addr × Obj)} (hz : L2N.Zn cls d oe) (hf : ∃ vs, oe.data = .fields vs) : HotC (X.suite a ((a, oe) :: pn)) := by
  obtain ⟨vs, hv⟩ := hf
  exact ⟨(a, oe), ⟨rfl, vs, hv, hz.2.2 vs hv⟩, List.mem_cons_self⟩
/-! ### try: body / except X as n: suite -/
/-- behind the suite the clause's name is gone -/
def endTry (i : Nat) : SR → SR
  | .nx ρ st => .nx (ρ.set i none) st
  | .bk ρ st => .bk (ρ.set i none) st
  | .ct ρ st => .ct (ρ.set i none) st
  | .rt w st => .rt w st
  | _ => .bad
def sTry (F : SF) (sub : Str → Option Bool) (Ft : Str → SF) : SF := fun ρ st => match F ρ st with
  | .exc c ρ' st' => (match sub c with | some true => Ft c ρ' st' | some false => .exc c ρ' st' | none => .bad)
  | r => r
theorem RepL.unset {C : Wd} {G : Hp} {ad : List Addr} {ρ : Lv} {σ : L2.St} (r : RepL C G ad ρ σ) (i : Nat) : RepL C G ad (ρ.set i none) (σ.set i none) := wipeL_rel r [i]
section
variable {X : Cx} {Wx : WX} {x n : Str} {cW : Addr} {i : Nat} {body suite : List Stmt} {b₀ : Stmt} {np pos pos' : Pos} {Fb : SF} {sub : Str → Option Bool} {Fs : Str → Addr → SF} {Ft : Str → SF}
theorem fs_try (hs : X.stack = X.env :: X.outer) (hf : X.env.frame = some X.env.locals) (hN : X.N.Nodup) (hi : X.N[i]? = some n) (hln : X.env.kindOf n = some .local) (hc : Names X x (.ref cW)) (tk : L2N.Takes X Wx)
    (hsub : ∀ c b, sub c = some b → ∃ C, X.mg c = some (.ref C) ∧ PySem.W.exmOne X.K (.ref C) (.ref cW) = some b)
    (hb : ∀ (W : WX) (pn : List (Addr × Obj)) (xe : Value → Shared → Prop), L2N.Takes (X.tr pn xe) W → PassesOwn (model X.prog X.w) X.A X.env xe → FSs (X.tr pn xe) W body Fb)
    (hsu : ∀ (a : Addr) (oe : Obj) (c : Str) (C : Addr) (pn : List (Addr × Obj)), sub c = some true → X.mg c = some (.ref C) → L2N.Zn (.ref C) none oe → (∃ vs, oe.data = .fields vs) → FSs (X.suite a ((a, oe) :: pn)) W0 (b₀ :: suite) (Fs c a))
    (hF : ∀ c a ρ st, sub c = some true → Ft c ρ st = .bad ∨ endTry i (Fs c a (ρ.set i (some (.fn a))) st) = Ft c ρ st) :
    FS X Wx (.Try body [.ExceptHandler (some (.Name x np)) (some n) (b₀ :: suite) pos'] [] [] pos) (sTry Fb sub Ft) := by
  refine ⟨_, L2N.ps_try_as (X := X) (c := .ref cW) (i := i) (Wout := Wx)
    (tb := fun W D σ H => ∀ (pn : List (Addr × Obj)) (xe : Value → Shared → Prop) (tk : L2N.Takes (X.tr pn xe) W) (po : PassesOwn (model X.prog X.w) X.A X.env xe), Classical.choose (hb W pn xe tk po) D σ H)
    (ts := fun a cls d D σ H => ∃ (c : Str) (C : Addr) (e : cls = .ref C) (e2 : d = none) (h1 : sub c = some true) (h2 : X.mg c = some (.ref C)), ∀ (oe : Obj) (pn : List (Addr × Obj)) (hz : L2N.Zn (.ref C) none oe) (hv : ∃ vs, oe.data = .fields vs), Classical.choose (hsu a oe c C pn h1 h2 hz hv) D σ H)
    hs hf hN hi hln hc tk (fun W pn xe tk po => ⟨fun pins s σ H D I q => (Classical.choose_spec (hb W pn xe tk po)).1.run pins s σ H D I (q pn xe tk po)⟩) (fun a oe cls d pn hz hv => ⟨fun pins s σ H D I q => ?_⟩), fun σ H G ad ρ st D rs rl h pn xe tk' po => ?_⟩
  · obtain ⟨c, C, e, e2, h1, h2, k⟩ := q
    subst e e2
    exact (Classical.choose_spec (hsu a oe c C pn h1 h2 hz hv)).1.run pins s σ H D I (k oe pn hz hv)
  · refine (Classical.choose_spec (hb (wAs X.K (.ref cW) i _ Wx D) pn xe tk' po)).2 σ H G ad ρ st D rs rl ?_
    unfold sTry at h
    generalize Fb ρ st = r at h ⊢
    cases r with
    | nx _ _ => exact h
    | rt _ _ => exact h
    | bk _ _ => exact h
    | ct _ _ => exact h
    | bad => exact h
    | exc c ρ1 st1 =>
      dsimp only at h
      cases es : sub c with
      | none => rw [es] at h; exact h.elim
      | some b =>
        rw [es] at h
        obtain ⟨C, hC, hx⟩ := hsub c b es
        refine ⟨C, hC, fun σ' G' ad' H' s' rs' rl' => ⟨b, hx, fun hb' a na => ?_, fun hb' => ?_⟩⟩
        · subst hb'
          dsimp only at h
          refine ⟨c, C, rfl, rfl, es, hC, fun oe pn2 hz hv => ?_⟩
          refine (Classical.choose_spec (hsu a oe c C pn2 es hC hz hv)).2 _ H' G' ad' (ρ1.set i (some (.fn a))) st1 _ rs' (rl'.set (.fn (a := a))) ?_
          have h' := PostS.mono s' h
          rcases hF c a ρ1 st1 es with e | e
          · rw [e] at h'; exact h'.elim
          · rw [← e] at h'
            generalize Fs c a (ρ1.set i (some (.fn a))) st1 = r2 at h'
            cases r2 with
            | nx ρ2 st2 => exact fun σ2 G2 ad2 H2 s2 rs2 rl2 => h' _ G2 ad2 H2 s2 rs2 (rl2.unset i)
            | bk ρ2 st2 => exact fun σ2 G2 ad2 H2 s2 rs2 rl2 => h' _ G2 ad2 H2 s2 rs2 (rl2.unset i)
            | ct ρ2 st2 => exact fun σ2 G2 ad2 H2 s2 rs2 rl2 => h' _ G2 ad2 H2 s2 rs2 (rl2.unset i)
            | rt w st2 => exact h'
            | exc c2 ρ2 st2 => exact h'.elim
            | bad => exact h'.elim
        · subst hb'
          dsimp only at h
          obtain ⟨C2, hC2, k⟩ := h
          rw [hC] at hC2
          cases hC2
          exact k σ' G' ad' H' s' rs' rl'
end
/-! ### a call of a local name that holds a def -/
def cCallL (i : Nat) (f : Addr) (den : Den) (FAs : AF) : EF := fun ρ st => match ρ[i]? with | some (some (.fn f')) => if f' = f then (FAs ρ st).bind den else .bad | _ => .bad
def cFn (f : Addr) : EF := fun _ st => .ok (.fn f) st
section
variable {X : Cx} {Wx : WX} {x : Str} {p pos : Pos} {e : Expr} {es : List Expr} {FAs : AF} {k i : Nat} {f : Addr} {fd : FuncData} {ps : List Str} {den : Den}
theorem fe_callL (Fn : FnOk X.prog X.w X.K X.mg X.base (L2N.CX X.prog X.w) k f fd ps (spD (wd X) X.mg ps.length den)) (tk : L2N.Takes X Wx) (hr : Room k X.A) (hN : X.N[i]? = some x) (hv : Vis X.env.scope x) (hk : PySem.W.keepIn X.K (.ref f) = true) (hb : Binds X.K fd ps [])
    (hn : (e :: es).length = ps.length) (ha : FA X Wx (e :: es) FAs) (hdb : (x == ("__debug__" : Str)) = false := by decide) (hcd : (x == ("__classdict__" : Str)) = false := by decide) (he : starEach (e :: es) X.env = (false, eval e X.env) :: starEach es X.env := by rfl) (hpl : (backTo pos (starEach es X.env)).any (·.1) = false := by rfl) :
    FE X Wx (.Call (.Name x p) (e :: es) [] pos) (cCallL i f den FAs) := by
  obtain ⟨t, pa, ka, hl⟩ := ha
  refine ⟨fun σ H Q => σ[i]? = some (some (.ref f)) ∧ t σ H fun vs H1 => spD (wd X) X.mg ps.length den vs H1 Q (WE Wx σ), ⟨fun pins s σ H Q I h => ?_⟩, fun σ H G ad ρ st Q rs rl h => ?_⟩
  · obtain ⟨hs, ht⟩ := h
    refine wpAny_Call_Name_kw (thn ((pe_var (pos := p) hN hv hdb hcd).run pins s σ H (fun v H1 => v = .ref f ∧ H1 = H) I ⟨.ref f, hs, rfl, rfl⟩) fun u s1 ⟨v, H1, I1, r1, q1⟩ => ?_)
    obtain ⟨rfl, rfl⟩ := q1
    cases r1
    refine PySem.W.callWith_K (h₀ := X.base) I.ok.mod.kin hk (thn (pa.run pos pins s1 σ _ _ I1 ht) fun us s2 ⟨vs, H2, I2, r, q⟩ => ⟨I2.kIn, ?_⟩) he hpl
    exact run_fnSD (dvs := []) (ds := []) (E := fun σ => WE Wx σ) Fn hr hb .nil (L2N.passAt tk σ) I2 r (by rw [List.append_nil]; exact q)
  · unfold cCallL at h
    generalize hq : ρ[i]? = q at h
    match q, h with
    | none, h => exact h.elim
    | some none, h => exact h.elim
    | some (some (.d _)), h => exact h.elim
    | some (some (.h _)), h => exact h.elim
    | some (some (.hs _)), h => exact h.elim
    | some (some (.fn f')), h =>
      dsimp only at h
      by_cases ef : f' = f
      · rw [if_pos ef] at h
        rw [ef] at hq
        obtain ⟨v, ev, rv⟩ := rl.2 i _ hq
        cases rv
        refine ⟨ev, ka σ H G ad ρ st _ rs rl (Post.bind h fun ws st1 vs G1 ad1 H1 e1 s1 rs1 rv q => ?_)⟩
        refine ⟨by rw [WvAll.length rv]; exact (hl _ _ _ _ e1).trans hn, G1, ad1, st1, ws, rs1, rv, ?_⟩
        generalize den ws st1 = r at q
        cases r <;> exact q
      · rw [if_neg ef] at h; exact h.elim
theorem fe_gfn (hg : Gl X x) (hm : X.mg x = some (.ref f)) (hd : (x == ("__debug__" : Str)) = false := by decide) : FE X Wx (.Name x p) (cFn f) :=
  ⟨_, pe_glob (v := .ref f) hg hm rfl hd, fun σ H G ad ρ st Q rs rl h => h _ G ad H .refl rs .fn⟩
theorem FE.congr {e : Expr} {F F' : EF} (h : FE X Wx e F) (q : ∀ ρ st, F' ρ st = .bad ∨ F' ρ st = F ρ st) : FE X Wx e F' := by
  obtain ⟨t, p, k⟩ := h
  refine ⟨t, p, fun σ H G ad ρ st Q rs rl h => ?_⟩
  rcases q ρ st with z | z
  · rw [z] at h; exact h.elim
  · rw [z] at h; exact k σ H G ad ρ st Q rs rl h
/-- _law_error(g, ..), g a def of the module -/
def DefOkE (P : Program) (w : World) (K : PySem.W.Frag) (mg : Str → Option Value) (base : Heap) (x g : Str) (k : Nat) (ps : List Str) (den4 : Addr → Den) : Prop := ∃ fc, mg g = some (.ref fc) ∧ DefOk P w K mg base x k ps (den4 fc)
theorem fe_err {g : Str} {pg p : Pos} {den4 : Addr → Den} {dE : Den} (heq : ∀ fc ws st, ws.length = (e :: es).length → dE ws st = .bad ∨ den4 fc (.fn fc :: ws) st = dE ws st) (D : DefOkE X.prog X.w X.K X.mg X.base x g k ps den4) (tk : L2N.Takes X Wx) (hr : Room k X.A) (hg : Gl X x) (hgg : Gl X g) (hn : (e :: es).length + 1 = ps.length) (ha : FA X Wx (e :: es) FAs)
    (hdb : (x == ("__debug__" : Str)) = false := by decide) (hdg : (g == ("__debug__" : Str)) = false := by decide) (hs : starEach (.Name g pg :: e :: es) X.env = (false, eval (.Name g pg) X.env) :: starEach (e :: es) X.env := by rfl) (hpl : (backTo pos (starEach (e :: es) X.env)).any (·.1) = false := by rfl) :
    FE X Wx (.Call (.Name x p) (.Name g pg :: e :: es) [] pos) (cA dE FAs) := by
  obtain ⟨fc, hm, D⟩ := D
  have hl := ha.choose_spec.2.2
  have h := fe_callK (p := p) D tk hr hg (by simpa using hn) (fa_cons (fe_gfn (p := pg) hgg hm hdg) ha hs) hdb hs hpl
  refine FE.congr h fun ρ st => ?_
  unfold cA aCons cFn
  simp only [R.bind_ok]
  cases ef : FAs ρ st with
  | ok ws st1 => simp only [R.bind_ok]; exact (heq fc ws st1 (hl _ _ _ _ ef)).imp id Eq.symm
  | exc c st1 => exact .inr rfl
  | bad => exact .inl rfl
end
end Fx

namespace Fx
open PySem PySem.Spec L2 L2H FxH
open PyProof.Rows hiding St
def tsOf (ns : List Str) (c : Str) : List (Str × Bool) := ns.map fun t => (t, t == c)
theorem look_tsOf {ns : List Str} {t c : Str} (h : t ∈ ns) : (tsOf ns c).lookup t = some (t == c) := by
  unfold tsOf
  induction ns with
  | nil => cases h
  | cons a r ih =>
    rw [List.map_cons, List.lookup_cons]
    by_cases q : t = a
    · subst q; simp
    · have q' : (t == a) = false := by simpa using q
      rw [q']
      rcases List.mem_cons.mp h with z | z
      · exact absurd z q
      · exact ih z
def subL (l : List Str) (c : Str) : Option Bool := if c ∈ l then some true else none
theorem mem_subL {l : List Str} {c : Str} {b : Bool} (h : subL l c = some b) : c ∈ l := by
  unfold subL at h
  split at h
  · assumption
  · cases h
theorem hsub_of {K : PySem.W.Frag} {mg : Str → Option Value} {l : List Str} {wE : Str} {cW : Addr} {ts : Str → List (Str × Bool)} (h : ∀ c ∈ l, ErrK K mg c wE (ts c)) (hW : mg wE = some (.ref cW)) :
    ∀ c b, subL l c = some b → ∃ C, mg c = some (.ref C) ∧ PySem.W.exmOne K (.ref C) (.ref cW) = some b := by
  intro c b e
  obtain ⟨C, E, h1, h2, h3, h4, _⟩ := h c (mem_subL e)
  rw [hW] at h2
  cases h2
  have : b = true := by
    unfold subL at e
    split at e
    · cases e; rfl
    · cases e
  subst this
  exact ⟨C, h1, h4⟩
def ClsAt (K : PySem.W.Frag) (x : Str) : Prop := ∃ C, PySem.W.nsIn K mainGlobals x = some (some (.ref C))
theorem ClsAt.mk {K : PySem.W.Frag} {x : Str} {C : Addr} (h : PySem.W.nsIn K mainGlobals x = some (some (.ref C))) : ClsAt K x := ⟨C, h⟩
theorem ClsAt.ok {K : PySem.W.Frag} {mg : Str → Option Value} {h : Heap} {x : Str} (X : K.In h) (G : h.Ns mainGlobals mg) (D : ClsAt K x) : ∃ C, mg x = some (.ref C) := by
  obtain ⟨C, h1⟩ := D
  exact ⟨C, PySem.W.mg_of X G h1⟩
/-- the names of the errors that a call raises -/
def errV (R : List Str) (den : Den) : Den := fun ws st => match den ws st with
  | .ok _ st' => .ok (.d (.list [])) (st'.take st.length)
  | .exc c st' => if c ∈ R then (if st.length ≤ st'.length then .ok (.d (.list [.str c, .bool true])) (st'.take st.length) else .bad) else .bad
  | .bad => .bad
theorem len3 {α : Type} {l : List α} (h : l.length = 3) : ∃ a b c, l = [a, b, c] := match l, h with | [a, b, c], _ => ⟨a, b, c, rfl⟩
theorem len9 {α : Type} {l : List α} (h : l.length = 9) : ∃ a b c d e f g i j, l = [a, b, c, d, e, f, g, i, j] := match l, h with | [a, b, c, d, e, f, g, i, j], _ => ⟨a, b, c, d, e, f, g, i, j, rfl⟩
/-! ### the suite of _law_error -/
def ERRN : List Str := ["InvalidLengths", "InvalidSetting", "InvalidTurn", "InvalidScript", "InvalidRow", "InvalidColumns", "InvalidNumber", "InvalidRecords", "NothingToUndo"]
def suE (c : Str) (a : Addr) : SF :=
    sSeq (sSet 6 (cA gLstH (aCons (cA (gSeq .tuple) (aCons (cD (.str "InvalidLengths")) (aCons (cIsE 5 a ("InvalidLengths" == c)) (aNil)))) (aNil))))
    (sSeq (sSet 6 (c2 gAddH (cVar 6) (cA (gSeq .list) (aCons (cA (gSeq .tuple) (aCons (cD (.str "InvalidSetting")) (aCons (cIsE 5 a ("InvalidSetting" == c)) (aNil)))) (aNil)))))
    (sSeq (sSet 6 (c2 gAddH (cVar 6) (cA (gSeq .list) (aCons (cA (gSeq .tuple) (aCons (cD (.str "InvalidTurn")) (aCons (cIsE 5 a ("InvalidTurn" == c)) (aNil)))) (aNil)))))
    (sSeq (sSet 6 (c2 gAddH (cVar 6) (cA (gSeq .list) (aCons (cA (gSeq .tuple) (aCons (cD (.str "InvalidScript")) (aCons (cIsE 5 a ("InvalidScript" == c)) (aNil)))) (aNil)))))
    (sSeq (sSet 6 (c2 gAddH (cVar 6) (cA (gSeq .list) (aCons (cA (gSeq .tuple) (aCons (cD (.str "InvalidRow")) (aCons (cIsE 5 a ("InvalidRow" == c)) (aNil)))) (aNil)))))
    (sSeq (sSet 6 (c2 gAddH (cVar 6) (cA (gSeq .list) (aCons (cA (gSeq .tuple) (aCons (cD (.str "InvalidColumns")) (aCons (cIsE 5 a ("InvalidColumns" == c)) (aNil)))) (aNil)))))
    (sSeq (sSet 6 (c2 gAddH (cVar 6) (cA (gSeq .list) (aCons (cA (gSeq .tuple) (aCons (cD (.str "InvalidNumber")) (aCons (cIsE 5 a ("InvalidNumber" == c)) (aNil)))) (aNil)))))
    (sSeq (sSet 6 (c2 gAddH (cVar 6) (cA (gSeq .list) (aCons (cA (gSeq .tuple) (aCons (cD (.str "InvalidRecords")) (aCons (cIsE 5 a ("InvalidRecords" == c)) (aNil)))) (aNil)))))
    (sSeq (sExpr (cApp (cVar 6) (cA (gSeq .tuple) (aCons (cD (.str "NothingToUndo")) (aCons (cIsE 5 a ("NothingToUndo" == c)) (aNil))))))
    (sSet 4 (c2 (g2 fAdd) (cLc (iLstF (cVar 6)) [7, 8] (gT 2 (gsCons (gN 7) (gsCons (gN 8) gsNil))) (Fx.tB (cVar 8)) (cVar 7)) (cA (gSeq .list) (aCons (cIsE 5 a true) (aNil)))))))))))))
def rowE (c t : Str) : PyData := .tuple [.str t, .bool (t == c)]
def rowsE (c : Str) : List PyData := ERRN.map (rowE c)
def osE (c : Str) : Sto := (List.range 7).map (fun k => ⟨true, .lst ((rowsE c).take (k + 1))⟩) ++ [⟨false, .lst (rowsE c)⟩]
theorem sSeq_nx' {F K : SF} {ρ ρ' : Lv} {st st' : Sto} (h : F ρ st = .nx ρ' st') : sSeq F K ρ st = K ρ' st' := by unfold sSeq; rw [h]
section
variable {r0 r1 r2 r3 r4 r6 r7 r8 : Option W} {a : Addr} {t c : Str} {st : Sto} {rows : List PyData}
theorem row_first : sSet 6 (cA gLstH (aCons (cA (gSeq .tuple) (aCons (cD (.str t)) (aCons (cIsE 5 a (t == c)) (aNil)))) (aNil))) [r0, r1, r2, r3, r4, some (.fn a), r6, r7, r8] st =
    .nx [r0, r1, r2, r3, r4, some (.fn a), some (.h st.length), r7, r8] (st ++ [⟨true, .lst [rowE c t]⟩]) := by
  simp [cIsE, gSeq, gLstH, rowE]
theorem row_add (hl : rows.length ≤ 100) : sSet 6 (c2 gAddH (cVar 6) (cA (gSeq .list) (aCons (cA (gSeq .tuple) (aCons (cD (.str t)) (aCons (cIsE 5 a (t == c)) (aNil)))) (aNil)))) [r0, r1, r2, r3, r4, some (.fn a), some (.h st.length), r7, r8] (st ++ [⟨true, .lst rows⟩]) =
    .nx [r0, r1, r2, r3, r4, some (.fn a), some (.h (st ++ [(⟨true, .lst rows⟩ : MO)]).length), r7, r8] (st ++ [⟨true, .lst rows⟩] ++ [⟨true, .lst (rows ++ [rowE c t])⟩]) := by
  have h : rows.length + 1 ≤ sizeLine := small_le (by omega)
  simp [cIsE, gSeq, gAddH, MC.data, h, rowE]
theorem row_app (hl : rows.length ≤ 100) : sExpr (cApp (cVar 6) (cA (gSeq .tuple) (aCons (cD (.str t)) (aCons (cIsE 5 a (t == c)) (aNil))))) [r0, r1, r2, r3, r4, some (.fn a), some (.h st.length), r7, r8] (st ++ [⟨true, .lst rows⟩]) =
    .nx [r0, r1, r2, r3, r4, some (.fn a), some (.h st.length), r7, r8] (st ++ [⟨true, .lst (rows ++ [rowE c t])⟩]) := by
  have h : rows.length < sizeLine := small_le (by omega)
  simp [cIsE, gSeq, cApp, gApp, isLst, liveL, h, rowE]
def pickE (rows : List (Str × Bool)) : List Str := (rows.filter (·.2)).map (·.1)
theorem lc_rows {r5 : Option W} : ∀ (rs : List (Str × Bool)) (acc : List W) (st : Sto), lcF (gT 2 (gsCons (gN 7) (gsCons (gN 8) gsNil))) (Fx.tB (cVar 8)) (cVar 7) [r0, r1, r2, r3, r4, r5, r6, none, none] (rs.map fun p => W.d (.tuple [.str p.1, .bool p.2])) acc st =
    (match packW (acc ++ (pickE rs).map fun t => W.d (.str t)) with | some w => .ok w st | none => .bad) := by
  intro rs
  induction rs with
  | nil => intro acc st; simp only [List.map_nil, lcF, pickE, List.filter_nil, List.append_nil]; try (cases packW acc <;> rfl)
  | cons p r ih =>
    intro acc st
    obtain ⟨t, b⟩ := p
    rw [List.map_cons]
    unfold lcF
    cases b with
    | true => simp [ih, pickE]
    | false => simp [ih, pickE]
def rowOf (p : Str × Bool) : PyData := .tuple [.str p.1, .bool p.2]
theorem pack_str (l : List Str) : packW (l.map fun t => W.d (.str t)) = some (.d (.list (l.map .str))) := by
  rw [← packW_data, List.map_map]; rfl
theorem row_last {rs : List (Str × Bool)} (hl : rs.length ≤ 100) : sSet 4 (c2 (g2 fAdd) (cLc (iLstF (cVar 6)) [7, 8] (gT 2 (gsCons (gN 7) (gsCons (gN 8) gsNil))) (Fx.tB (cVar 8)) (cVar 7)) (cA (gSeq .list) (aCons (cIsE 5 a true) (aNil)))) [r0, r1, r2, r3, r4, some (.fn a), some (.h st.length), r7, r8] (st ++ [⟨true, .lst (rs.map rowOf)⟩]) =
    .nx [r0, r1, r2, r3, some (.d (.list ((pickE rs).map .str ++ [.bool true]))), some (.fn a), some (.h st.length), r7, r8] (st ++ [⟨false, .lst (rs.map rowOf)⟩]) := by
  have h : rs.length ≤ sizeLine := small_le (by omega)
  have hp : (pickE rs).length + 1 ≤ sizeLine := small_le (by
    have : (pickE rs).length ≤ rs.length := by unfold pickE; rw [List.length_map]; exact List.length_filter_le _ _
    omega)
  have e : (rs.map rowOf).map W.d = rs.map fun p => W.d (.tuple [.str p.1, .bool p.2]) := by rw [List.map_map]; rfl
  have lc := fun st' => lc_rows (r0 := r0) (r1 := r1) (r2 := r2) (r3 := r3) (r4 := r4) (r6 := some (.h st.length)) (r5 := some (.fn a)) rs [] st'
  rw [← e] at lc
  simp only [List.nil_append, pack_str] at lc
  have fz : frz (.h st.length) (st ++ [(⟨true, .lst (rs.map rowOf)⟩ : MO)]) = some (.list (rs.map rowOf), st ++ [⟨false, .lst (rs.map rowOf)⟩]) := by
    simp [frz, MC.data]
  have il : iLstF (cVar 6) [r0, r1, r2, r3, r4, some (.fn a), some (.h st.length), r7, r8] (st ++ [(⟨true, .lst (rs.map rowOf)⟩ : MO)]) = .ok ((rs.map rowOf).map W.d) (st ++ [⟨false, .lst (rs.map rowOf)⟩]) := by
    show (match frz (.h st.length) (st ++ [(⟨true, .lst (rs.map rowOf)⟩ : MO)]) with | some (.list ds, st) => R.ok (ds.map W.d) st | _ => .bad) = _
    rw [fz]
  have hlen : ((rs.map rowOf).map W.d).length ≤ sizeLine := by simpa using h
  have w2 : wipeL [r0, r1, r2, r3, r4, some (.fn a), some (.h st.length), r7, r8] [7, 8] = [r0, r1, r2, r3, r4, some (.fn a), some (.h st.length), none, none] := rfl
  have lcv : cLc (iLstF (cVar 6)) [7, 8] (gT 2 (gsCons (gN 7) (gsCons (gN 8) gsNil))) (Fx.tB (cVar 8)) (cVar 7) [r0, r1, r2, r3, r4, some (.fn a), some (.h st.length), r7, r8] (st ++ [(⟨true, .lst (rs.map rowOf)⟩ : MO)]) = .ok (.d (.list ((pickE rs).map .str))) (st ++ [⟨false, .lst (rs.map rowOf)⟩]) := by
    rw [cLc_app, il, R.bind_ok, if_pos hlen, w2, lc]
  have l1 : (1 : Nat) ≤ sizeLine := small_le (by omega)
  simp only [sSet_app, c2_app, lcv, R.bind_ok]
  simp [cIsE, gSeq, fAdd, hp, g2, okD, der]
theorem suE_val (hc : c ∈ ERRN) : suE c a [r0, r1, r2, r3, r4, some (.fn a), r6, r7, r8] st = .nx [r0, r1, r2, r3, some (.d (.list [.str c, .bool true])), some (.fn a), some (.h (st.length + 7)), r7, r8] (st ++ osE c) := by
  have pk : pickE (ERRN.map fun t => (t, t == c)) = [c] := by
    simp only [ERRN, List.mem_cons, List.not_mem_nil, or_false] at hc
    rcases hc with rfl | rfl | rfl | rfl | rfl | rfl | rfl | rfl | rfl <;> decide
  have rw9 : rowsE c = (ERRN.map fun t => (t, t == c)).map rowOf := by unfold rowsE; rw [List.map_map]; rfl
  unfold suE
  refine (sSeq_nx' row_first).trans ?_
  iterate 7 refine (sSeq_nx' (row_add (by simp))).trans ?_
  refine (sSeq_nx' (row_app (by simp))).trans ?_
  have l := row_last (r0 := r0) (r1 := r1) (r2 := r2) (r3 := r3) (r4 := r4) (r7 := r7) (r8 := r8) (a := a) (rs := ERRN.map fun t => (t, t == c)) (by simp [ERRN])
    (st := st ++ [⟨true, .lst [rowE c "InvalidLengths"]⟩] ++ [⟨true, .lst ([rowE c "InvalidLengths"] ++ [rowE c "InvalidSetting"])⟩] ++ [⟨true, .lst ([rowE c "InvalidLengths"] ++ [rowE c "InvalidSetting"] ++ [rowE c "InvalidTurn"])⟩]
      ++ [⟨true, .lst ([rowE c "InvalidLengths"] ++ [rowE c "InvalidSetting"] ++ [rowE c "InvalidTurn"] ++ [rowE c "InvalidScript"])⟩] ++ [⟨true, .lst ([rowE c "InvalidLengths"] ++ [rowE c "InvalidSetting"] ++ [rowE c "InvalidTurn"] ++ [rowE c "InvalidScript"] ++ [rowE c "InvalidRow"])⟩]
      ++ [⟨true, .lst ([rowE c "InvalidLengths"] ++ [rowE c "InvalidSetting"] ++ [rowE c "InvalidTurn"] ++ [rowE c "InvalidScript"] ++ [rowE c "InvalidRow"] ++ [rowE c "InvalidColumns"])⟩]
      ++ [⟨true, .lst ([rowE c "InvalidLengths"] ++ [rowE c "InvalidSetting"] ++ [rowE c "InvalidTurn"] ++ [rowE c "InvalidScript"] ++ [rowE c "InvalidRow"] ++ [rowE c "InvalidColumns"] ++ [rowE c "InvalidNumber"])⟩])
  rw [pk] at l
  refine l.trans ?_
  simp [osE, rowsE, ERRN, rowE, rowOf, List.range, List.range.loop]
end
/-! ### _law_error -/
def ftE (c : Str) : SF := fun ρ st => if ρ.length = 9 ∧ c ∈ ERRN then .nx (((ρ.set 4 (some (.d (.list [.str c, .bool true])))).set 6 (some (.h (st.length + 7)))).set 5 none) (st ++ osE c) else .bad
theorem fiE : ∀ (c : Str) (a : Addr) (ρ : Lv) (st : Sto), ftE c ρ st = .bad ∨ endTry 5 (suE c a (ρ.set 5 (some (.fn a))) st) = ftE c ρ st := by
  intro c a ρ st
  unfold ftE
  by_cases hl : ρ.length = 9 ∧ c ∈ ERRN
  · right
    rw [if_pos hl]
    obtain ⟨r0, r1, r2, r3, r4, r5, r6, r7, r8, rfl⟩ := len9 hl.1
    have e := suE_val (r0 := r0) (r1 := r1) (r2 := r2) (r3 := r3) (r4 := r4) (r6 := r6) (r7 := r7) (r8 := r8) (a := a) (st := st) hl.2
    show endTry 5 (suE c a [r0, r1, r2, r3, r4, some (.fn a), r6, r7, r8] st) = _
    rw [e]
    rfl
  · left; rw [if_neg hl]
def bE (R : List Str) (fc : Addr) (den : Den) : SF :=
    sSeq (sSet 4 (cA (gSeq .list) (aNil)))
    (sSeq (sTry (sExpr (cCallL 0 fc den (aCons (cVar 1) (aCons (cVar 2) (aCons (cVar 3) (aNil)))))) (subL R) ftE)
    (sRet (cVar 4)))
def dE (R : List Str) (fc : Addr) (den : Den) : Den := defF 5 (bE R fc den)
theorem eqE {R : List Str} (hR : ∀ c ∈ R, c ∈ ERRN) {den : Den} : ∀ (fc : Addr) (ws : List W) (st : Sto), ws.length = 3 → errV R den ws st = .bad ∨ dE R fc den (.fn fc :: ws) st = errV R den ws st := by
  intro fc ws st hl
  obtain ⟨v0, v1, v2, rfl⟩ := len3 hl
  have e1 : dE R fc den [.fn fc, v0, v1, v2] st = finF st.length (sSeq (sTry (sExpr (cCallL 0 fc den (aCons (cVar 1) (aCons (cVar 2) (aCons (cVar 3) (aNil)))))) (subL R) ftE) (sRet (cVar 4)) [some (.fn fc), some v0, some v1, some v2, some (.d (.list [])), none, none, none, none] st) := by
    unfold dE defF bE
    refine congrArg _ (sSeq_nx' ?_)
    simp [gSeq]
  have e2 : sExpr (cCallL 0 fc den (aCons (cVar 1) (aCons (cVar 2) (aCons (cVar 3) (aNil))))) [some (.fn fc), some v0, some v1, some v2, some (.d (.list [])), none, none, none, none] st = (den [v0, v1, v2] st).s [some (.fn fc), some v0, some v1, some v2, some (.d (.list [])), none, none, none, none] fun _ st => .nx [some (.fn fc), some v0, some v1, some v2, some (.d (.list [])), none, none, none, none] st := by
    simp [cCallL]
  rw [e1]
  unfold errV
  cases hd : den [v0, v1, v2] st with
  | bad => exact .inl rfl
  | ok w st1 =>
    right
    rw [hd, Fx.R.s_ok] at e2
    have e3 : sTry (sExpr (cCallL 0 fc den (aCons (cVar 1) (aCons (cVar 2) (aCons (cVar 3) (aNil)))))) (subL R) ftE [some (.fn fc), some v0, some v1, some v2, some (.d (.list [])), none, none, none, none] st = .nx [some (.fn fc), some v0, some v1, some v2, some (.d (.list [])), none, none, none, none] st1 := by
      unfold sTry; rw [e2]
    rw [sSeq_nx' e3]
    simp
  | exc c st1 =>
    by_cases hc : c ∈ R
    · by_cases hs : st.length ≤ st1.length
      · right
        rw [hd, Fx.R.s_exc] at e2
        have e3 : sTry (sExpr (cCallL 0 fc den (aCons (cVar 1) (aCons (cVar 2) (aCons (cVar 3) (aNil)))))) (subL R) ftE [some (.fn fc), some v0, some v1, some v2, some (.d (.list [])), none, none, none, none] st = .nx [some (.fn fc), some v0, some v1, some v2, some (.d (.list [.str c, .bool true])), none, some (.h (st1.length + 7)), none, none] (st1 ++ osE c) := by
          unfold sTry
          rw [e2]
          have h1 : subL R c = some true := if_pos hc
          dsimp only
          rw [h1]
          dsimp only
          unfold ftE
          rw [if_pos ⟨rfl, hR c hc⟩]
          rfl
        rw [sSeq_nx' e3]
        simp [hc, hs, List.take_append_of_le_length hs]
      · left; simp only [if_pos hc, if_neg hs]
    · left; simp only [if_neg hc]
end Fx

namespace FxG
open PySem PySem.Spec L2 GenW
open PyProof.Rows hiding St
section
variable {M : Model} {A : Around} {R : GenEnd} {Y : Protocol} {n : Nat} {s₀ s : Shared} {c : Code} {fs : List Frame} {env : Env}
theorem seg_For {target iter : Expr} {body : List Stmt} {pos : Pos} {K : Flow → Sem PySem.Fin} {J : Value → Sem PySem.Fin} {gd : Bool → Bool} {lv : List Value → List Value} (hs : ∀ x, foldedSetIterable iter env x = pure x)
    (h : wpAny M (A.over c fs) (eval iter env) (fun x s₁ => wpAny M (A.over c fs) (pyIter x) (fun it s₂ => ∀ p, Seg M A R Y n s₀ (.forLoop target it body [] env) (M.den (.forLoop target it body [] env))
      (.ret (fun r => ((match r with | .ok f => (.pure f : Sem Flow) | .error e => .raise e).onRaise (cameBack env)).wrap K J gd lv) none (gd false) (lv []) c p [] :: fs) s₂)
      (fun e s' => Seg M A R Y n s₀ c (J e) fs s') s₁) (fun e s' => Seg M A R Y n s₀ c (J e) fs s') s) :
    Seg M A R Y n s₀ c ((exec (.For target iter body [] pos) env).wrap K J gd lv) fs s := by
  rw [exec_For]
  refine seg_bind_wrap (wpAny_standAt ?_)
  refine seg_bind_wrap (wpAny_mono h (fun x s₁ h₁ => ?_) fun _ _ z => z)
  refine seg_bind_wrap (wpAny_of_eq (hs x) ?_)
  refine seg_bind_wrap (wpAny_standAt ?_)
  refine seg_bind_wrap (wpAny_holding (wpAny_mono h₁ (fun it s₂ h₂ => ?_) fun _ _ z => z))
  exact seg_call h₂
end
section
variable {prog : Program} {w : World} {A : Around} {R : GenEnd} {Y : Protocol} {n : Nat} {s₀ : Shared} {fs : List Frame} {s : Shared} {env : Env}
abbrev noted (env : Env) (x : Value) : Sem PySem.Fin := (do noteFrame x env; theTreesLotGoes x : Sem Unit).wrap (fun _ => .raise x) .raise id id
theorem seg_forLoop {target : Expr} {it : Value} {body : List Stmt}
    (h : wpAny (model prog w) (A.over (.forLoop target it body [] env) fs) (pyNext it) (fun r s₁ => match r with
      | none => Seg (model prog w) A R Y n s₀ (.forLoop target it body [] env) (.pure (.again (.block [] env))) fs s₁
      | some v => wpAny (model prog w) (A.over (.forLoop target it body [] env) fs) (letOwnedTupleGo target it v) (fun _ s₁' => wpAny (model prog w) (A.over (.forLoop target it body [] env) fs) (assign target env v) (fun _ s₂ =>
          Seg (model prog w) A R Y n s₀ (.forLoop target it body [] env) ((execs body env).wrap (fun f => match f with
            | .next | .cont => .pure (.again (.forLoop target it body [] env))
            | .brk => .pure (.done .next)
            | .ret v => .pure (.done (.ret v))) (noted env) id id) fs s₂)
          (fun x s' => Seg (model prog w) A R Y n s₀ (.forLoop target it body [] env) (noted env x) fs s') s₁') (fun x s' => Seg (model prog w) A R Y n s₀ (.forLoop target it body [] env) (noted env x) fs s') s₁)
      (fun _ _ => False) s) :
    Seg (model prog w) A R Y n s₀ (.forLoop target it body [] env) ((model prog w).den (.forLoop target it body [] env)) fs s := by
  have ej : ∀ x, ((do noteFrame x env; theTreesLotGoes x : Sem Unit).bind fun _ => (.raise x : Sem PySem.Fin)) = noted env x := fun x => Sem.bind_eq_wrap _ _
  show Seg _ A R Y n s₀ _ ((forTurn target it body [] env).onRaise (fun x => do noteFrame x env; theTreesLotGoes x)) fs s
  rw [Sem.onRaise_eq_wrap]
  unfold forTurn
  refine seg_bind_wrap (wpAny_standAt ?_)
  refine seg_bind_wrap (wpAny_onRaise (wpAny_mono h (fun r s₁ h₁ => ?_) fun _ _ z => z.elim))
  cases r with
  | none => exact h₁
  | some v =>
    refine seg_bind_wrap (wpAny_mono h₁ (fun _ s₁' h₁' => ?_) fun x s' z => by rw [ej]; exact z)
    refine seg_bind_wrap (wpAny_mono h₁' (fun _ s₂ h₂ => ?_) fun x s' z => by rw [ej]; exact z)
    rw [Sem.bind_eq_wrap', Sem.wrap_wrap]
    refine cast (congrArg (fun t => Seg (model prog w) A R Y n s₀ (.forLoop target it body [] env) t fs s₂) (Sem.wrap_congr (execs body env) _ _ (fun f => ?_) (fun e => ?_)).symm) h₂
    · cases f <;> rfl
    · exact ej e
theorem seg_block_nil {env : Env} (h : Seg (model prog w) A R Y n s₀ (.block [] env) (.pure (.done .next)) fs s) : Seg (model prog w) A R Y n s₀ (.block [] env) ((model prog w).den (.block [] env)) fs s := h
end
/-! ### for in a generator's body -/
def tGFor (wi : TI) (g : TG) (tb : TGn) : TGn := fun D ys σ H => wi σ H fun J H1 => ∃ W : Nat → Nat → List V → L2.St → Hp → Prop, (∃ m, W 0 m ys σ H1) ∧ ∀ i m ys σ H, W i m ys σ H →
  (J.stop i H ∧ D.nx ys σ H) ∨ (J.go i H ∧ ∃ N : List V → L2.St → Hp → Prop, (∀ ys' σ' H', N ys' σ' H' → ∃ m', m' < m ∧ W (i + 1) m' ys' σ' H') ∧ ∀ x H', J.yld i H x H' → g x σ H' fun σ2 H2 => tb { D with nx := N, ct := N, bk := D.nx } ys σ2 H2)
section
variable {X : Cx}
theorem gs_for {tg iter : Expr} {body : List Stmt} {pos : Pos} {wi : TI} {g : TG} {tb : TGn} (hp : PassesOwn (model X.prog X.w) X.A X.env X.xe) (hc : X.calm = true) (hi : PI X tg iter wi) (hg : PG X tg g) (hb : GSs X body tb)
    (hs : ∀ x, foldedSetIterable iter X.env x = pure x := by intro _; rfl) : GS X (.For tg iter body [] pos) (tGFor wi g tb) := by
  refine ⟨fun A S ip R n ys s₀ c fs K J gd lv s σ H D gc hn k hI ht => ?_⟩
  obtain ⟨acc, cc, r, I⟩ := hI
  refine seg_For hs ?_
  rw [gc.over]
  refine wpAny_mono (hi.run _ s σ H _ I ht) (fun xv s1 h1 => wpAny_mono h1 (fun itv s2 h2 p => ?_) fun x s' hx => k.exc n s₀ x s' hx) fun x s' hx => k.exc n s₀ x s' hx
  obtain ⟨it, fp, tn, Jt, H2, e, I2, T, st2, f2, W, ⟨m0, w0⟩, turn⟩ := h2
  subst e
  have gl := fun (kk : Result → Sem PySem.Fin) => gc_loop (k := kk) (c' := .forLoop tg (.ref it) body [] X.env) (l := lv []) (kp := []) (p := p) gc rfl rfl
  have gb := fun (kk : Result → Sem PySem.Fin) => gc_loop (k := kk) (c' := .block [] X.env) (l := lv []) (kp := []) (p := p) gc rfl rfl
  -- the iterator's objects stand apart from the consumer's list
  have nS : ∀ b ∈ fp, b ≠ S := fun b hb z => (f2 b hb).2.2.2.2.2 (S, lstObj acc cc) (List.mem_append_right _ List.mem_cons_self) z.symm
  have stat : ∀ {H' : Hp} {a : Array Value} {c' : Nat}, (∀ b ∈ fp, H' b = none) → ∀ b ∈ fp, FpOk X ((S, lstObj a c') :: ip) H' b := fun {H' a c'} hn' b hb => by
    obtain ⟨f0, f1, f3, f4, f5, f6⟩ := f2 b hb
    refine ⟨hn' b hb, f1, f3, f4, f5, fun q hq => ?_⟩
    rcases List.mem_append.mp hq with z | z
    · exact f6 q (List.mem_append_left _ z)
    · rcases List.mem_cons.mp z with z | z
      · rw [z]; exact fun y => nS b hb y.symm
      · exact f6 q (List.mem_append_right _ (List.mem_cons_of_mem _ z))
  have ee : ∀ (n : Nat) (s₀ : Shared) (x : Value) (s' : Shared), X.xe x s' → Seg (model X.prog X.w) A R (GY X S) n s₀ (.forLoop tg (.ref it) body [] X.env) (noted X.env x)
      (.ret (fun r => ((match r with | .ok f => (.pure f : Sem Flow) | .error e => .raise e).onRaise (cameBack X.env)).wrap K J gd lv) none (gd false) (lv []) c p [] :: fs) s' := fun n s₀ x s' hx => by
    refine seg_wrap ?_
    rw [(gl _).over]
    refine wpAny_bind (wpAny_mono (hp x s' hx) (fun _ s'' hcb => wpAny_theTreesLotGoes ?_) fun y s'' hcb => ?_)
    · exact seg_leaf (.error x) (seg_cameBack gc k hcb)
    · exact seg_leaf (.error y) (seg_cameBack gc k hcb)
  have loop : ∀ (m n i : Nat) (ys : List V) (s₀ s : Shared) (σ : L2.St) (H : Hp), n + ys.length = sizeLine → W i m ys σ H → GI X S ip ys σ H s → tn i s.heap → (∀ b ∈ fp, H b = none) →
      Seg (model X.prog X.w) A R (GY X S) n s₀ (.forLoop tg (.ref it) body [] X.env) ((model X.prog X.w).den (.forLoop tg (.ref it) body [] X.env))
        (.ret (fun r => ((match r with | .ok f => (.pure f : Sem Flow) | .error e => .raise e).onRaise (cameBack X.env)).wrap K J gd lv) none (gd false) (lv []) c p [] :: fs) s := by
    intro m
    induction m using Nat.strongRecOn with
    | ind m ih =>
      intro n i ys s₀ s σ H hn w hI st fr
      obtain ⟨acc, cc, r, I⟩ := hI
      refine seg_forLoop ?_
      rw [(gl _).over]
      rcases turn i m ys σ H w with ⟨stop, qn⟩ | ⟨go, N, hN, step⟩
      · refine wpAny_mono (T.done X rfl rfl rfl hc i ((S, lstObj acc cc) :: ip) s σ H (fun _ _ => False) I (stat fr) st stop) (fun r' s4 ⟨hr, I4⟩ => ?_) fun _ _ z => z
        subst hr
        refine seg_again rfl (seg_block_nil ?_)
        exact seg_leaf (.ok .next) (k.ok n ys s₀ s4 .next hn ⟨σ, H, ⟨acc, cc, r, I4⟩, qn⟩)
      · refine wpAny_mono (T.item X rfl rfl rfl hc i ((S, lstObj acc cc) :: ip) s σ H (fun _ _ => False) I (stat fr) st go) (fun r' s4 ⟨u, hr, h4⟩ => ?_) fun _ _ z => z
        subst hr
        refine wpAny_mono (h4) (fun _ s5 ⟨x, H5, I5, r5, y5, st5, fr5⟩ => ?_) fun x s' hx => hx.elim
        have I5' := I5.pinned (stat fr5) (T.obj _ _ st5)
        refine wpAny_mono (hg.run _ s5 σ H5 x u _ I5' r5 (step x H5 y5)) (fun _ s6 ⟨σ6, H6, I6, q6⟩ => ?_) fun x s' hx => ee n s₀ x s' hx
        have hip' : ∀ q ∈ ip ++ pinsAt fp s5.heap, q.1 ≠ S := fun q hq => by
          rcases List.mem_append.mp hq with z | z
          · exact gc.ip q z
          · exact nS q.1 (of_pinsAt z).1
        have gl2 : GC X S (ip ++ pinsAt fp s5.heap) A (.forLoop tg (.ref it) body [] X.env) (.ret (fun r => ((match r with | .ok f => (.pure f : Sem Flow) | .error e => .raise e).onRaise (cameBack X.env)).wrap K J gd lv) none (gd false) (lv []) c p [] :: fs) id :=
          let z := gl (fun r => ((match r with | .ok f => (.pure f : Sem Flow) | .error e => .raise e).onRaise (cameBack X.env)).wrap K J gd lv)
          ⟨z.pn, hip', z.apart, z.over, z.split, z.guard, z.gd⟩
        have again : ∀ {n' : Nat} {ys' : List V} {s₀' s7 : Shared} {σ7 : L2.St} {H7 : Hp}, n' + ys'.length = sizeLine → GI X S (ip ++ pinsAt fp s5.heap) ys' σ7 H7 s7 → N ys' σ7 H7 → Seg (model X.prog X.w) A R (GY X S) n' s₀' (.forLoop tg (.ref it) body [] X.env) (.pure (.again (.forLoop tg (.ref it) body [] X.env)))
            (.ret (fun r => ((match r with | .ok f => (.pure f : Sem Flow) | .error e => .raise e).onRaise (cameBack X.env)).wrap K J gd lv) none (gd false) (lv []) c p [] :: fs) s7 := fun {n' ys' s₀' s7 σ7 H7} hn' I7 n7 => by
          obtain ⟨m', hm, w7⟩ := hN ys' σ7 H7 n7
          obtain ⟨a7, c7, r7, J7⟩ := I7
          have pin7 : ∀ b ∈ fp, ∀ o, s5.heap.get? b = some o → s7.heap.get? b = some o ∧ H7 b = none := fun b hb o e =>
            let z := J7.pin (b, o) (List.mem_append_right _ (List.mem_cons_of_mem _ (List.mem_append_right _ (mem_pinsAt hb e))))
            ⟨z.1, z.2.1⟩
          have J8 : Inv X ((S, lstObj a7 c7) :: ip) σ7 H7 s7 := J7.pins_of fun q hq => J7.pin q (List.mem_append_right _ (by
            rcases List.mem_cons.mp hq with z | z
            · rw [z]; exact List.mem_cons_self
            · exact List.mem_cons_of_mem _ (List.mem_append_left _ z)))
          refine seg_again rfl (ih m' hm n' (i + 1) ys' s₀' s7 σ7 H7 hn' w7 ⟨a7, c7, r7, J8⟩ (T.keep _ _ _ st5 fun b hb o e => (pin7 b hb o e).1) fun b hb => ?_)
          obtain ⟨o, e, d⟩ := T.obj _ _ st5 b hb
          exact (pin7 b hb o e).2
        have I6' : Inv X ((S, lstObj acc cc) :: (ip ++ pinsAt fp s5.heap)) σ6 H6 s6 := I6
        have unp : ∀ {ys' : List V} {σ7 : L2.St} {H7 : Hp} {s7 : Shared}, GI X S (ip ++ pinsAt fp s5.heap) ys' σ7 H7 s7 → GI X S ip ys' σ7 H7 s7 := fun {ys' σ7 H7 s7} ⟨a7, c7, r7, J7⟩ => ⟨a7, c7, r7, J7.pins_of fun q hq => J7.pin q (List.mem_append_right _ (by
            rcases List.mem_cons.mp hq with z | z
            · rw [z]; exact List.mem_cons_self
            · exact List.mem_cons_of_mem _ (List.mem_append_left _ z)))⟩
        refine hb.run A S (ip ++ pinsAt fp s5.heap) R n ys s₀ _ _ _ _ id id s6 σ6 H6 { D with nx := N, ct := N, bk := D.nx } gl2 hn ⟨fun n' ys' s₀' s7 f hn' hs' => ?_, fun n' s₀' x s7 hx => ee n' s₀' x s7 hx⟩ ⟨acc, cc, r, I6'⟩ q6
        cases f with
        | next => obtain ⟨σ7, H7, I7, n7⟩ := hs'; exact again hn' I7 n7
        | cont => obtain ⟨σ7, H7, I7, n7⟩ := hs'; exact again hn' I7 n7
        | brk => obtain ⟨σ7, H7, I7, q7⟩ := hs'; exact seg_leaf (.ok .next) (k.ok n' ys' s₀' s7 .next hn' ⟨σ7, H7, unp I7, q7⟩)
        | ret v => obtain ⟨v7, σ7, H7, I7, rv7, q7⟩ := hs'; exact seg_leaf (.ok (.ret v)) (k.ok n' ys' s₀' s7 (.ret v) hn' ⟨v7, σ7, H7, unp I7, rv7, q7⟩)
  exact loop m0 n 0 ys s₀ s2 σ H2 hn w0 ⟨acc, cc, r, I2⟩ st2 fun b hb => (f2 b hb).1
end
end FxG

namespace Fx
open PySem PySem.Spec L2 FxG
open PyProof.Rows hiding St

/-! ### a generator's body: what it hands out -/
inductive GO where
  | nx (ρ : Lv) (st : Sto) (out : List PyData) | bad
abbrev GnF := Lv → Sto → GO
def PostG (X : Cx) (G : Hp) (ad : List Addr) (H : Hp) (ys : List V) (D : GEnds) : GO → Prop
  | .nx ρ st out => ys.length + out.length ≤ sizeLine ∧ ∀ σ' G' ad' H' vs, Step G ad H G' ad' H' → RepS (wd X) G' ad' st H' → RepL (wd X) G' ad' ρ σ' → DvAll (wd X) G' vs out → D.nx (ys ++ vs) σ' H'
  | .bad => False
theorem PostG.mono {X : Cx} {G : Hp} {ad : List Addr} {H : Hp} {ys : List V} {D : GEnds} {r : GO} {G1 : Hp} {ad1 : List Addr} {H1 : Hp} (s : Step G ad H G1 ad1 H1) (h : PostG X G ad H ys D r) : PostG X G1 ad1 H1 ys D r := by
  cases r with
  | nx ρ st out => exact ⟨h.1, fun σ' G' ad' H' vs s' => h.2 σ' G' ad' H' vs (s.trans s')⟩
  | bad => exact h
def FG1 (X : Cx) (st : Stmt) (F : GnF) : Prop := ∃ t : TGn, GS X st t ∧ ∀ σ H G ad ρ sto ys D, RepS (wd X) G ad sto H → RepL (wd X) G ad ρ σ → PostG X G ad H ys D (F ρ sto) → t D ys σ H
def FGl (X : Cx) (st : List Stmt) (F : GnF) : Prop := ∃ t : TGn, GSs X st t ∧ ∀ σ H G ad ρ sto ys D, RepS (wd X) G ad sto H → RepL (wd X) G ad ρ σ → PostG X G ad H ys D (F ρ sto) → t D ys σ H
def nPlain (F : SF) : GnF := fun ρ st => match F ρ st with | .nx ρ' st' => .nx ρ' st' [] | _ => .bad
def nSeq (F K : GnF) : GnF := fun ρ st => match F ρ st with
  | .nx ρ' st' o => (match K ρ' st' with | .nx ρ2 st2 o2 => .nx ρ2 st2 (o ++ o2) | .bad => .bad)
  | .bad => .bad
def nNil : GnF := fun ρ st => .nx ρ st []
def nYield (a : EF) : GnF := fun ρ st => match a ρ st with | .ok (.d x) st' => .nx ρ st' [x] | _ => .bad
def forN (g : GF) (F : GnF) : List W → GnF
  | [], ρ, st => .nx ρ st []
  | w :: ws, ρ, st => match g w ρ st with
    | none => .bad
    | some ρ1 => match F ρ1 st with
      | .nx ρ2 st2 o => (match forN g F ws ρ2 st2 with | .nx ρ3 st3 o2 => .nx ρ3 st3 (o ++ o2) | .bad => .bad)
      | .bad => .bad
def nFor (it : AF) (g : GF) (F : GnF) : GnF := fun ρ st => match it ρ st with | .ok ws st' => forN g F ws ρ st' | _ => .bad
section
variable {X : Cx} {st : Stmt} {ss : List Stmt} {F K : GnF} {Fs : SF} {e : Expr} {Fe : EF} {yp pos : Pos}
theorem g1_plain (h : FS X W0 st Fs) : FG1 X st (nPlain Fs) := by
  obtain ⟨t, p, k⟩ := h
  refine ⟨_, gs_ps p, fun σ H G ad ρ sto ys D rs rl h => ?_⟩
  refine k σ H G ad ρ sto (D.at ys) rs rl ?_
  unfold nPlain at h
  generalize Fs ρ sto = r at h
  cases r with
  | nx ρ' st' =>
    intro σ' G' ad' H' s' rs' rl'
    have := h.2 σ' G' ad' H' [] s' rs' rl' .nil
    rw [List.append_nil] at this
    exact this
  | _ => exact h.elim
theorem gl_nil : FGl X [] nNil := ⟨_, gss_nil, fun σ H G ad ρ sto ys D rs rl h => by
  have := h.2 σ G ad H [] .refl rs rl .nil
  rw [List.append_nil] at this
  exact this⟩
theorem gl_cons (a : FG1 X st F) (b : FGl X ss K) : FGl X (st :: ss) (nSeq F K) := by
  obtain ⟨t1, p1, k1⟩ := a
  obtain ⟨t2, p2, k2⟩ := b
  refine ⟨_, gss_cons p1 p2, fun σ H G ad ρ sto ys D rs rl h => ?_⟩
  refine k1 σ H G ad ρ sto ys _ rs rl ?_
  unfold nSeq at h
  generalize F ρ sto = r at h
  cases r with
  | bad => exact h.elim
  | nx ρ1 st1 o =>
    dsimp only at h
    cases eK : K ρ1 st1 with
    | bad => rw [eK] at h; exact h.elim
    | nx ρ2 st2 o2 =>
      rw [eK] at h
      refine ⟨by have := h.1; rw [List.length_append] at this; omega, fun σ' G' ad' H' vs s' rs' rl' rv => ?_⟩
      refine k2 σ' H' G' ad' ρ1 st1 (ys ++ vs) D rs' rl' ?_
      rw [eK]
      refine ⟨by have := h.1; rw [List.length_append] at this ⊢; rw [rv.length]; omega, fun σ2 G2 ad2 H2 us s2 rs2 rl2 ru => ?_⟩
      rw [List.append_assoc]
      exact h.2 σ2 G2 ad2 H2 (vs ++ us) (s'.trans s2) rs2 rl2 ((rv.le s2.gle).append ru)
theorem g1_yield (he : FE X W0 e Fe) (hco : X.env.scope.isCoroutine = false := by rfl) (hi : interactive X.env = false := by rfl) : FG1 X (.Expr (.Yield (some e) yp) pos) (nYield Fe) := by
  obtain ⟨t, p, k⟩ := he
  refine ⟨_, gs_yield p hco hi, fun σ H G ad ρ sto ys D rs rl h => ?_⟩
  unfold nYield at h
  cases ea : Fe ρ sto with
  | exc c s => rw [ea] at h; exact h.elim
  | bad => rw [ea] at h; exact h.elim
  | ok w st' =>
    rw [ea] at h
    cases w with
    | d x =>
      refine ⟨by have := h.1; rw [List.length_singleton] at this; omega, k σ H G ad ρ sto _ rs rl ?_⟩
      rw [ea]
      intro v G' ad' H' s' rs' rv
      cases rv with
      | d rv => exact h.2 σ G' ad' H' [v] s' rs' (rl.step s') (DvAll.one rv)
    | _ => exact h.elim
end
section
variable {X : Cx} {tg iter : Expr} {body : List Stmt} {FAs : AF} {g : GF} {F : GnF} {pos : Pos} {sl : List Nat}
theorem g1_for (hp : PassesOwn (model X.prog X.w) X.A X.env X.xe) (hc : X.calm = true) (hi : FI X W0 tg iter FAs) (hg : FG X tg g sl) (hb : FGl X body F) (hs : ∀ x, foldedSetIterable iter X.env x = pure x := by intro _; rfl) : FG1 X (.For tg iter body [] pos) (nFor FAs g F) := by
  obtain ⟨wi, pi, ki⟩ := hi
  obtain ⟨tg', pg, kg⟩ := hg
  obtain ⟨tb, pb, kb⟩ := hb
  refine ⟨_, gs_for hp hc pi pg pb hs, fun σ H G ad ρ st ys D rs rl h => ?_⟩
  unfold nFor at h
  refine ki σ H G ad ρ st _ rs rl ?_
  cases ei : FAs ρ st with
  | exc c s => rw [ei] at h; exact h.elim
  | bad => rw [ei] at h; exact h.elim
  | ok ws st1 =>
    rw [ei] at h
    intro J G1 ad1 H1 s1 rs1 rJ
    have rl1 := rl.step s1
    have q := PostG.mono s1 h
    refine ⟨fun i m ys' σ' H' => m = ws.length - i ∧ i ≤ ws.length ∧ ∃ G2 ad2 ρ2 st2, Step G1 ad1 H1 G2 ad2 H' ∧ RepS (wd X) G2 ad2 st2 H' ∧ RepL (wd X) G2 ad2 ρ2 σ' ∧ PostG X G2 ad2 H' ys' D (forN g F (ws.drop i) ρ2 st2),
      ⟨_, rfl, Nat.zero_le _, G1, ad1, ρ, st1, .refl, rs1, rl1, q⟩, ?_⟩
    rintro i m ys2 σ2 H2 ⟨rfl, hi, G2, ad2, ρ2, st2, s2, rs2, rl2, q2⟩
    obtain ⟨hgo, hstop⟩ := rJ G2 ad2 H2 s2.gle s2.adp rs2.sub
    by_cases hlt : i < ws.length
    · have hw : ws[i]? = some ws[i] := List.getElem?_eq_getElem hlt
      obtain ⟨go, yld⟩ := hgo i ws[i] hw
      refine .inr ⟨go, fun ys' σ' H' => ∃ G3 ad3 ρ3 st3, Step G1 ad1 H1 G3 ad3 H' ∧ RepS (wd X) G3 ad3 st3 H' ∧ RepL (wd X) G3 ad3 ρ3 σ' ∧ PostG X G3 ad3 H' ys' D (forN g F (ws.drop (i + 1)) ρ3 st3),
        fun ys' σ' H' hN => ⟨ws.length - (i + 1), by omega, rfl, hlt, hN⟩, fun x H' hy => ?_⟩
      obtain ⟨G', hG⟩ := yld x H' hy
      obtain ⟨s3, rs3, rx⟩ := hG st2 rs2
      rw [List.drop_eq_getElem_cons hlt] at q2
      have rl3 := rl2.step s3
      unfold forN at q2
      cases eg : g ws[i] ρ2 st2 with
      | none => rw [eg] at q2; exact q2.elim
      | some ρ4 =>
        rw [eg] at q2
        refine kg x ws[i] σ2 H' G' ad2 ρ2 st2 ρ4 _ rs3 rl3 rx eg fun σ4 _ rl4 => ?_
        refine kb σ4 H' G' ad2 ρ4 st2 ys2 _ rs3 rl4 ?_
        dsimp only at q2
        cases eF : F ρ4 st2 with
        | bad => rw [eF] at q2; exact q2.elim
        | nx ρ5 st5 o =>
          rw [eF] at q2
          dsimp only at q2
          cases eK : forN g F (ws.drop (i + 1)) ρ5 st5 with
          | bad => rw [eK] at q2; exact q2.elim
          | nx ρ6 st6 o2 =>
            rw [eK] at q2
            refine ⟨by have := q2.1; rw [List.length_append] at this; omega, fun σ' G6 ad6 H6 vs s6 rs6 rl6 rv => ⟨G6, ad6, ρ5, st5, s2.trans (s3.trans s6), rs6, rl6, ?_⟩⟩
            rw [eK]
            refine ⟨by have := q2.1; rw [List.length_append] at this ⊢; rw [rv.length]; omega, fun σ7 G7 ad7 H7 us s7 rs7 rl7 ru => ?_⟩
            rw [List.append_assoc]
            exact q2.2 σ7 G7 ad7 H7 (vs ++ us) (s3.trans (s6.trans s7)) rs7 rl7 ((rv.le s7.gle).append ru)
    · have e : i = ws.length := by omega
      subst e
      refine .inl ⟨hstop, ?_⟩
      rw [List.drop_length] at q2
      have := q2.2 σ2 G2 ad2 H2 [] .refl rs2 rl2 .nil
      rw [List.append_nil] at this
      exact this
end
/-! ### a generator def, and list(f(..)) -/
abbrev DenG := List W → Sto → Option (List PyData × Sto)
def gdefF (k : Nat) (F : GnF) : DenG := fun ws st => match F (ws.map some ++ List.replicate k none) st with
  | .nx _ st' out => if out.length ≤ sizeLine then some (out, st'.take st.length) else none
  | .bad => none
def spGn (C : Wd) (np : Nat) (den : DenG) : SpG := fun vs H Q _ => vs.length = np ∧ ∃ G ad st ws, RepS C G ad st H ∧ WvAll C G ad vs ws ∧ ∃ out st', den ws st = some (out, st') ∧ ∀ G' ad' H' us, Step G ad H G' ad' H' → RepS C G' ad' st' H' → DvAll C G' us out → Q us H'
def DefOkG (P : Program) (w : World) (K : PySem.W.Frag) (mg : Str → Option Value) (base : Heap) (x : Str) (k : Nat) (ps : List Str) (den : DenG) : Prop :=
  ∃ f fd, GFn P w K mg base k f fd ps (spGn ⟨P, w, K⟩ ps.length den) ∧ mg x = some (.ref f) ∧ PySem.W.keepIn K (.ref f) = true ∧ Binds K fd ps []
section
variable {P : Program} {w : World} {K : PySem.W.Frag} {mg : Str → Option Value} {base : Heap}
theorem gfd_of {x qual : Str} {s : Stmt} {f : Addr} {fd : FuncData} {N ps : List Str} {k j : Nat} {F : GnF} (Fn : Fun K x qual s f fd) (S : GScope N ps (defScope s)) (hj : N.length = ps.length + j)
    (hb : ∀ (cdv : Value) (A : Around) (outer : List Env) (s0 : Shared) (H : Hp) (E : XK) (pn : List (Addr × Obj)), Room k (A.deeper (envOfC qual (defScope s) s0.heap.objs.size f cdv)) →
      FGl (gcxOf P w K mg base N qual (defScope s) f cdv A outer s0 H E pn) (defBody s) F) :
    GFn P w K mg base (k + 1) f fd ps (spGn ⟨P, w, K⟩ ps.length (gdefF j F)) := by
  obtain ⟨oc, od, kV, doc, pm, an, cdv, ct, osl, rfl, lk, hcd⟩ := Fn.ex
  refine gfn_of lk hcd S (fun vs H Q E h => h.1) (fun A outer s0 H vs Q E pn hr h => ?_)
  obtain ⟨hl, G, ad, st, ws, rs, rv, out, st', e, h⟩ := h
  obtain ⟨t, p, q⟩ := hb cdv A outer s0 H E pn hr
  refine ⟨t, p, q (L2.start N vs) H G ad (ws.map some ++ List.replicate j none) st [] _ rs (repL_start rv (by omega)) ?_⟩
  unfold gdefF at e
  have hlen := rs.len
  cases eF : F (ws.map some ++ List.replicate j none) st with
  | bad => rw [eF] at e; cases e
  | nx ρ1 st1 o =>
    rw [eF] at e
    dsimp only at e
    split at e
    · rename_i hz
      cases e
      refine ⟨by simpa using hz, fun σ' G' ad' H' us s' rs' rl' ru => ?_⟩
      refine h G' (ad'.take ad.length) H' us s'.cut ?_ ru
      rw [hlen]
      exact rs'.cut _
    · cases e
end
def cListG (den : DenG) (FAs : AF) : EF := fun ρ st => (FAs ρ st).bind fun ws st => match den ws st with | some (out, st') => .ok (.d (.list out)) st' | none => .bad
theorem passL0 {X : Cx} : Passes (L2.CX X.prog X.w) X (fun _ _ _ => False) := fun _ _ _ _ _ _ _ h => by
  obtain ⟨_, _, _, _, _, _, _, _, _, _, _, _, z⟩ := h
  exact z.elim
section
variable {X : Cx} {Wx : WX} {x : Str} {p q pos pos' : Pos} {e : Expr} {es : List Expr} {FAs : AF} {k : Nat} {ps : List Str} {den : DenG}
theorem fe_listG (D : DefOkG X.prog X.w X.K X.mg X.base x k ps den) (hr : Room (k + 3) X.A) (hg : Gl X x) (hgl : Gl X "list") (hml : X.mg "list" = none) (hn : (e :: es).length = ps.length) (ha : FA X Wx (e :: es) FAs) (hdb : (x == ("__debug__" : Str)) = false := by decide)
    (he : starEach (e :: es) X.env = (false, eval e X.env) :: starEach es X.env := by rfl) (hpl : (backTo pos' (starEach es X.env)).any (·.1) = false := by rfl) (he2 : starEach [.Call (.Name x p) (e :: es) [] pos'] X.env = (false, eval (.Call (.Name x p) (e :: es) [] pos') X.env) :: starEach [] X.env := by rfl) :
    FE X Wx (.Call (.Name "list" q) [.Call (.Name x p) (e :: es) [] pos'] [] pos) (cListG den FAs) := by
  obtain ⟨f, fd, Fn, hm, hk, hb⟩ := D
  obtain ⟨t, pa, ka, hl⟩ := ha
  refine ⟨_, pe_listG (nm := "list") (pgen_call (dvs := []) (ds := []) (E := fun _ _ _ => False) Fn (hr.mono (by omega)) hg hm hk hb .nil pa hdb he hpl) passL0 (fun _ _ _ z => z.elim) hr hgl hml PyProof.Rows.boot_list (by decide) (by decide) he2, fun σ H G ad ρ st Q rs rl h => ?_⟩
  refine ka σ H G ad ρ st _ rs rl (Post.bind h fun ws st1 vs G1 ad1 H1 e1 s1 rs1 rv q1 => ?_)
  cases ed : den ws st1 with
  | none => rw [ed] at q1; exact q1.elim
  | some o =>
    obtain ⟨out, st2⟩ := o
    rw [ed] at q1
    refine ⟨by rw [List.append_nil, WvAll.length rv]; exact (hl _ _ _ _ e1).trans hn, G1, ad1, st1, ws, rs1, by rw [List.append_nil]; exact rv, out, st2, ed, fun G' ad' H' us s' rs' ru => ?_⟩
    exact Post.newLst (q1.mono s') rs' ru
end
/-! ### defs with a star parameter -/
theorem cxUpN {P : Program} {w : World} : StX.CXUp (L2N.CX P w) := by
  rintro outer s H s2 H2 E e s' un kp ho ⟨a, B, H', cls, d, ea, fl, hok, ub, na, os, ag, he⟩
  refine ⟨a, B, H', cls, d, ea, fl, hok, ⟨fun b o q n hb => ub.keep b o (kp b o q) (un.free b o q n (by simp)) hb, fun b o q hb => ub.slot b o (kp b o q) hb, fun b o q n => ub.free b o (kp b o q) (un.free b o q n (by simp)),
    fun b o q hb => ub.there b o (kp b o q) hb, fun b xs q => ub.tups b xs (un.tups b xs q), fun b o xs q => ub.frzs b o xs (un.frzs b o xs q), fun b ps q => ?_⟩, na, os.trans ho, ag, he⟩
  obtain ⟨m1, e1⟩ := un.tbls b ps q
  obtain ⟨m2, e2⟩ := ub.tbls b _ e1
  exact ⟨m1 ++ m2, by rw [e2, Array.append_assoc]⟩
def datsW : List W → Option (List PyData)
  | [] => some []
  | .d x :: r => (datsW r).map (x :: ·)
  | _ => none
theorem datsW_rel {C : Wd} {G : Hp} {ad : List Addr} : ∀ {vs : List V} {ws : List W} {xs : List PyData}, WvAll C G ad vs ws → datsW ws = some xs → DvAll C G vs xs
  | _, _, _, .nil, e => by cases e; exact .nil
  | _, _, _, .cons r t, e => by
    cases r with
    | d r =>
      obtain ⟨ys, h, rfl⟩ := Option.map_eq_some_iff.mp e
      exact .cons r (datsW_rel t h)
    | h _ => cases e
    | hs _ _ => cases e
    | fn => cases e
/-- f(a, .., *rest): what is left over is a tuple of data -/
def starDen (n : Nat) (den : Den) : Den := fun ws st => match datsW (ws.drop n) with
  | some xs => if xs.length ≤ 1000 then den (ws.take n ++ [.d (.tuple xs)]) st else .bad
  | none => .bad
def spStar (C : Wd) (mg : Str → Option Value) (n : Nat) (den : Den) : Sp := fun vs H Q E => n ≤ vs.length ∧ ∃ G ad st ws, RepS C G ad st H ∧ WvAll C G ad vs ws ∧ PostF C mg G ad H (starDen n den ws st) Q E
def DefOkV (P : Program) (w : World) (K : PySem.W.Frag) (mg : Str → Option Value) (base : Heap) (x : Str) (k n : Nat) (den : Den) : Prop :=
  ∃ f, FnR P w K mg base (L2N.CX P w) k f (spStar ⟨P, w, K⟩ mg n den) ∧ mg x = some (.ref f) ∧ PySem.W.keepIn K (.ref f) = true
section
variable {P : Program} {w : World} {K : PySem.W.Frag} {mg : Str → Option Value} {base : Heap}
theorem fd_star {x qual pv : Str} {s : Stmt} {f : Addr} {fd : FuncData} {N ps : List Str} {k j : Nat} {F : SF} (Fn : Fun K x qual s f fd) (S : FnScope N (ps ++ [pv]) (defScope s)) (hj : N.length = ps.length + 1 + j)
    (hbind : ∀ (kV doc pm : Value) (an : Option Addr) (cdv ct : Value) (us rest : List Value), us.length = ps.length → bindArgs (PySem.W.fnOf x qual (defArgs s) (defBody s) (defScope s) .none kV doc pm an cdv ct) ⟨us ++ rest, []⟩ = (newTuple rest >>= fun t => pure (ps.zip us ++ [(pv, t)])))
    (hb : ∀ (cdv : Value) (A : Around) (outer : List Env) (s0 : Shared) (H : Hp) (E : XK), Room k (A.deeper (envOfC qual (defScope s) s0.heap.objs.size f cdv)) →
      FSs (cxOf (L2N.CX P w) P w K mg base N qual (defScope s) f cdv A outer s0 H E) (fun cls d _ H => E cls d H) (defBody s) F) :
    FnR P w K mg base (L2N.CX P w) (k + 1) f (spStar ⟨P, w, K⟩ mg ps.length (defF j F)) := by
  obtain ⟨oc, od, kV, doc, pm, an, cdv, ct, osl, rfl, lk, hcd⟩ := Fn.ex
  have FR := StX.fn_star (sp := spD ⟨P, w, K⟩ mg (ps.length + 1) (defF j F)) lk hcd S cxUpN (hbind kV doc pm an cdv ct) (fun A outer s0 H vs Q E hr h => by
    obtain ⟨hl, G, ad, st, ws, rs, rv, h⟩ := h
    obtain ⟨t, p, q⟩ := hb cdv A outer s0 H E hr
    refine ⟨t, p, q (L2.start N vs) H G ad (ws.map some ++ List.replicate j none) st _ rs (repL_start rv (by omega)) ?_⟩
    unfold defF at h
    have hlen := rs.len
    generalize F (ws.map some ++ List.replicate j none) st = r at h ⊢
    have cut : ∀ {G' ad' H'} {st' : Sto}, Step G ad H G' ad' H' → RepS ⟨P, w, K⟩ G' ad' st' H' → Step G ad H G' (ad'.take ad.length) H' ∧ RepS ⟨P, w, K⟩ G' (ad'.take ad.length) (st'.take st.length) H' := fun s' rs' => ⟨s'.cut, by rw [hlen]; exact rs'.cut _⟩
    cases r with
    | nx ρ' st' => exact fun σ' G' ad' H' s' rs' _ => h _ _ _ _ (cut s' rs').1 (cut s' rs').2 (.d .non)
    | rt w' st' =>
      intro v G' ad' H' s' rs' rv'
      have h : PostF ⟨P, w, K⟩ mg G ad H (match frz w' st' with | some (x, st') => .ok (.d x) (st'.take st.length) | none => .bad) Q E := h
      split at h
      · rename_i x st2 e
        obtain ⟨G2, s2, rs2, d2⟩ := frz_ok rs' rv' e
        have c := cut (s'.trans s2) rs2
        exact h _ _ _ _ c.1 c.2 (.d d2)
      · exact h.elim
    | exc c ρ' st' =>
      obtain ⟨C, m, q⟩ := h
      exact ⟨C, m, fun σ' G' ad' H' s' rs' _ => q _ _ _ (cut s' rs').1 (cut s' rs').2⟩
    | bk => exact h.elim
    | ct => exact h.elim
    | bad => exact h.elim)
  intro A outer s0 H us vs Q E hr e0 r hsp
  refine FR A outer s0 H us vs Q E hr e0 r ?_
  obtain ⟨hn, G, ad, st, ws, rs, rv, h⟩ := hsp
  unfold starDen at h
  cases ed : datsW (ws.drop ps.length) with
  | none => rw [ed] at h; exact h.elim
  | some xs =>
    rw [ed] at h
    dsimp only at h
    split at h
    · rename_i hz
      have spl : ∀ {vs : List V} {ws : List W} (n : Nat), WvAll ⟨P, w, K⟩ G ad vs ws → WvAll ⟨P, w, K⟩ G ad (vs.take n) (ws.take n) ∧ WvAll ⟨P, w, K⟩ G ad (vs.drop n) (ws.drop n) := by
        intro vs ws n r
        induction r generalizing n with
        | nil => cases n <;> exact ⟨.nil, .nil⟩
        | cons a t ih =>
          cases n with
          | zero => exact ⟨.nil, .cons a t⟩
          | succ n => exact ⟨.cons a (ih n).1, (ih n).2⟩
      obtain ⟨r1, r2⟩ := spl ps.length rv
      have d2 := datsW_rel r2 ed
      refine ⟨vs.take ps.length, vs.drop ps.length, (List.take_append_drop _ _).symm, by rw [List.length_take]; omega, by rw [d2.length]; exact Nat.le_trans hz (by decide), fun q hq => ?_⟩
      have gq : G q = none := rs.sub.none hq
      refine ⟨by rw [List.length_append, List.length_take]; simp; omega, L2.upd G q (.tup (vs.drop ps.length)), ad, st, ws.take ps.length ++ [.d (.tuple xs)], rs.newG hq, ?_, ?_⟩
      · have s1 := Step.newG rs (o := .tup (vs.drop ps.length)) hq
        exact WvAll.append (WvAll.step s1 r1) (.cons (.d (.tup (SqT.of upd_same) (d2.le (Le.upd gq)))) .nil)
      · have s1 := Step.newG rs (o := .tup (vs.drop ps.length)) hq
        generalize defF j F (ws.take ps.length ++ [.d (.tuple xs)]) st = r at h
        cases r with
        | ok w' st' => exact fun v G' ad' H' s' => h v G' ad' H' (s1.trans s')
        | exc c st' =>
          obtain ⟨C, m, q'⟩ := h
          exact ⟨C, m, fun G' ad' H' s' => q' G' ad' H' (s1.trans s')⟩
        | bad => exact h
    · exact h.elim
end
section
variable {X : Cx} {Wx : WX} {x : Str} {p pos : Pos} {e : Expr} {es : List Expr} {FAs : AF} {k n : Nat} {den : Den}
theorem fe_callV (D : DefOkV X.prog X.w X.K X.mg X.base x k n den) (tk : L2N.Takes X Wx) (hr : Room k X.A) (hg : Gl X x) (hn : n ≤ (e :: es).length) (ha : FA X Wx (e :: es) FAs) (hdb : (x == ("__debug__" : Str)) = false := by decide) (he : starEach (e :: es) X.env = (false, eval e X.env) :: starEach es X.env := by rfl) (hpl : (backTo pos (starEach es X.env)).any (·.1) = false := by rfl) :
    FE X Wx (.Call (.Name x p) (e :: es) [] pos) (cA (starDen n den) FAs) := by
  obtain ⟨f, Fn, hm, hk⟩ := D
  obtain ⟨t, pa, ka, hl⟩ := ha
  refine ⟨fun σ H Q => t σ H fun vs H1 => spStar (wd X) X.mg n den vs H1 Q (WE Wx σ), ⟨fun pins s σ H Q I h => ?_⟩, fun σ H G ad ρ st Q rs rl h => ?_⟩
  · refine wpAny_Call_Name_kw (ld_glob I hg hm ?_ hdb)
    refine PySem.W.callWith_K (h₀ := X.base) I.ok.mod.kin hk (thn (pa.run pos pins s σ H _ I h) fun us s1 ⟨vs, H1, I1, r, q⟩ => ⟨I1.kIn, ?_⟩) he hpl
    refine wpAny_call (codeAny_mono (Fn X.A X.stack s1 H1 us vs Q (WE Wx σ) hr I1.env0 r q) fun r s' hq => ?_)
    cases r with
    | error e => exact L2N.passAt tk σ pins H1 s1 e s' I1 hq
    | ok fl =>
      cases fl with
      | ret u => exact I1.after hq
      | next => exact False.elim hq
      | brk => exact False.elim hq
      | cont => exact False.elim hq
  · refine ka σ H G ad ρ st _ rs rl (Post.bind h fun ws st1 vs G1 ad1 H1 e1 s1 rs1 rv q => ?_)
    refine ⟨by rw [WvAll.length rv, hl _ _ _ _ e1]; exact hn, G1, ad1, st1, ws, rs1, rv, ?_⟩
    generalize starDen n den ws st1 = r at q
    cases r <;> exact q
end
end Fx

namespace Fx
open PySem PySem.Spec L2
open PyProof.Rows hiding St

/-- a list behind a handle, times an int -/
def gMulH (w z : W) (st : Sto) : R W := match w with
  | .h n => (match st[n]? with
    | some ⟨true, .lst xs⟩ => (match der st z with
      | some (.int k) => if 0 ≤ k ∧ k ≤ 1000 ∧ xs.length ≤ 1000 then .ok (.d (.list (List.replicate k.toNat xs).flatten)) st else .bad
      | _ => .bad)
    | _ => .bad)
  | _ => .bad
section
variable {X : Cx} {Wx : WX} {a b : Expr} {Fa Fb : EF} {pos : Pos}
theorem o_mulH : Op2 X Wx gMulH rRep := by
  intro σ H G ad st v w u z Q rs rv ru h
  unfold gMulH at h
  split at h
  · rename_i n
    split at h
    · rename_i xs en
      split at h
      · rename_i k e2
        split at h
        · rename_i hz
          obtain rfl := der_int rs ru e2
          cases rv with
          | h ea =>
            rename_i p
            obtain ⟨_, vs, hH, r⟩ := rs.obj n _ p en ea
            refine ⟨p, k, vs, rfl, rfl, hH, by omega, by omega, ?_, Post.newLst h rs (r.rep _)⟩
            rw [r.length]
            have h1 : k.toNat ≤ 1000 := by omega
            have h2 : xs.length * k.toNat ≤ 1000 * 1000 := Nat.mul_le_mul hz.2.2 h1
            exact Nat.le_trans h2 (by decide)
        · exact h.elim
      · exact h.elim
    · exact h.elim
  · exact h.elim
theorem fe_mulH (ha : FE X Wx a Fa) (hb : FE X Wx b Fb) : FE X Wx (.BinOp a .Mult b pos) (c2 gMulH Fa Fb) := fe_2 o_mulH ha hb fun _ _ p q => pe_op op_rep p q
end
section
variable {P : Program} {w : World} {K : PySem.W.Frag} {mg : Str → Option Value} {base h : Heap} {x : Str} {st : Stmt} {k n : Nat} {ps : List Str} {den : Den}
theorem DefAt.okG {den : DenG} (X : K.In h) (G : h.Ns mainGlobals mg) (D : DefAt K x st) (ok : ∀ f fd, Fun K x x st f fd → GFn P w K mg base k f fd ps (spGn ⟨P, w, K⟩ ps.length den))
    (hb : ∀ (kV doc pm : Value) (an : Option Addr) (cdv ct : Value) (us : List Value), us.length = ps.length → bindArgs (PySem.W.fnOf x x (defArgs st) (defBody st) (defScope st) .none kV doc pm an cdv ct) ⟨us, []⟩ = pure (ps.zip us)) : DefOkG P w K mg base x k ps den := by
  obtain ⟨f, oc, od, an, osl, kV, doc, pm, cdv, ct, h1, h2, h3, h4⟩ := D
  have F := fun_mk (st := st) h2 h3 h4
  exact ⟨f, _, ok _ _ F, PySem.W.mg_of X G h1, h4, F.binds hb⟩
theorem DefAt.okV (X : K.In h) (G : h.Ns mainGlobals mg) (D : DefAt K x st) (ok : ∀ f fd, Fun K x x st f fd → FnR P w K mg base (L2N.CX P w) k f (spStar ⟨P, w, K⟩ mg n den)) : DefOkV P w K mg base x k n den := by
  obtain ⟨f, oc, od, an, osl, kV, doc, pm, cdv, ct, h1, h2, h3, h4⟩ := D
  have F := fun_mk (st := st) h2 h3 h4
  exact ⟨f, ok _ _ F, PySem.W.mg_of X G h1, h4⟩
end
end Fx

namespace PySem
section
variable {prog : Program} {w : World} {A : Around} {E : Value → Shared → Prop} {s : Shared} {l : Addr} {xs : Array (Int × Tok)}
theorem iter_intTup {Q : Value → Shared → Prop} (hl : s.heap.IsTuple l (intItems xs))
    (h : ∀ s₂ : Shared, s₂ = { s with heap := s.heap.push { cls := .type "tuple_iterator", data := .fields #[.ref l, .int 0 0] } } →
      (s₂.heap.IsTupleIter s.heap.objs.size l 0 ∧ s₂.heap.IsTuple l (intItems xs)) → (∀ b ∈ [s.heap.objs.size, l], b < s₂.heap.objs.size) → l ≠ s.heap.objs.size → Q (.ref s.heap.objs.size) s₂) :
    wpAny (model prog w) A (pyIter (.ref l)) Q E s := by
  have hlt : l < s.heap.objs.size := by obtain ⟨_, e, _⟩ := hl; exact Heap.lt_size e
  refine wpAny_pyIter_tuple hl (h _ rfl ⟨⟨_, Heap.get?_push_size _ rfl, rfl, rfl⟩, hl.push _⟩ (fun b hb => ?_) (Nat.ne_of_lt hlt))
  show b < (s.heap.push _).objs.size
  rw [Heap.size_push]
  rcases List.mem_cons.mp hb with rfl | hb
  · exact Nat.lt_succ_self _
  · rcases List.mem_cons.mp hb with rfl | hb
    · exact Nat.lt_succ_of_lt hlt
    · cases hb
theorem old_keptT {h' : Heap} (hk : ∀ b o, b ∉ [s.heap.objs.size] → (s.heap.push { cls := .type "tuple_iterator", data := .fields #[.ref l, .int 0 0] }).get? b = some o → h'.get? b = some o) :
    ∀ b o, s.heap.get? b = some o → h'.get? b = some o := fun b o e => by
  refine hk b o (fun hm => ?_) (Heap.get?_push_of_some _ e)
  rcases List.mem_cons.mp hm with e1 | hm
  · exact absurd (e1 ▸ Heap.lt_size e) (Nat.lt_irrefl _)
  · cases hm
theorem max_intTup {Q : Value → Shared → Prop} (hh : A.handled = none) (hl : s.heap.IsTuple l (intItems xs)) (hne : 0 < xs.size)
    (h : ∀ v h' tk, (intItems xs)[argBest (fun i j => decide (numAt xs i > numAt xs j)) (xs.size - 1)]? = some v → (∀ b o, s.heap.get? b = some o → h'.get? b = some o) → Q v { s with heap := h', toks := tk }) :
    wpAny (model prog w) A (call (.builtin "max") [.ref l]) Q E s := by
  refine call_max_walk (iter_intTup hl fun s₂ e st hfp hlI => ?_)
  subst e
  refine ⟨_, _, _, _, _, _, _, rfl, Walks.tuple (A := A.in1) hh _ l hlI (intItems xs), st, hfp, by simpa [intItems] using hne, CmpOf.ints_gt (numAt xs) (fun _ _ => intItems_at), fun v h' tk hP hk => ?_⟩
  exact h v h' tk (by simpa [intItems] using hP) (old_keptT hk)
theorem sum_intTup {Q : Value → Shared → Prop} (hh : A.handled = none) (hl : s.heap.IsTuple l (intItems xs))
    (h : ∀ h' tk t', (∀ b o, s.heap.get? b = some o → h'.get? b = some o) → Q (.int (preSum (numAt xs) xs.size) t') { s with heap := h', toks := tk }) :
    wpAny (model prog w) A (call (.builtin "sum") [.ref l]) Q E s := by
  refine call_sum_walkG (iter_intTup hl fun s₂ e st hfp hlI => ?_)
  subst e
  refine ⟨_, _, _, _, _, _, numAt xs, rfl, Walks.tuple (A := A.in1) hh _ l hlI (intItems xs), st, hfp, (fun _ _ => intItems_at), fun h' tk t' hk => ?_⟩
  have := h h' tk t' (old_keptT hk)
  simpa [intItems] using this
end
end PySem
namespace Fx
open PySem PySem.Spec L2 PyProof PyProof.Rows
section
variable {prog : Program} {w : World} {A : Around} {E : Value → Shared → Prop} {s : Shared} {l : Addr} {its : List Value} {ns : List Int} {Q : Value → Shared → Prop}
theorem sumT_raw (hh : A.handled = none) (hl : s.heap.IsTuple l its.toArray) (hi : IntsAre its ns)
    (h : ∀ h' tk t', (∀ b o, s.heap.get? b = some o → h'.get? b = some o) → Q (.int ns.sum t') { s with heap := h', toks := tk }) : wpAny (model prog w) A (call (.builtin "sum") [.ref l]) Q E s := by
  obtain ⟨xs, e⟩ := hi.allInts.items
  have hn : numsOf (intItems xs).toList = ns := by rw [← e]; exact hi.numsOf
  rw [nums_intItems] at hn
  rw [e] at hl
  refine PySem.sum_intTup hh hl fun h' tk t' hk => ?_
  have := h h' tk t' hk
  rw [preSum_eq, List.take_of_length_le (by simp), hn]; exact this
theorem maxT_raw (hh : A.handled = none) (hl : s.heap.IsTuple l its.toArray) (hi : IntsAre its ns) (hne : 0 < ns.length)
    (h : ∀ h' tk M t', (∀ b o, s.heap.get? b = some o → h'.get? b = some o) → M ∈ ns → (∀ a, a ∈ ns → a ≤ M) → Q (.int M t') { s with heap := h', toks := tk }) : wpAny (model prog w) A (call (.builtin "max") [.ref l]) Q E s := by
  obtain ⟨xs, e⟩ := hi.allInts.items
  have hn : numsOf (intItems xs).toList = ns := by rw [← e]; exact hi.numsOf
  rw [nums_intItems] at hn
  subst hn
  rw [e] at hl
  have hsz : 0 < xs.size := by simpa using hne
  refine PySem.max_intTup hh hl hsz fun v h' tk hv hk => ?_
  obtain ⟨t, rfl⟩ := intItems_at hv
  obtain ⟨h1, h2⟩ := argBest_gt (numAt xs) (xs.size - 1)
  refine h h' tk _ t hk ?_ fun a ha => ?_
  · rw [numAt_eq]; exact PySem.getD_mem (by rw [List.length_map, Array.length_toList]; omega)
  · obtain ⟨j, hj, rfl⟩ := mem_getD ha
    rw [List.length_map, Array.length_toList] at hj
    rw [← numAt_eq]; exact h2 j (by omega)
end
def rSumT (K : PySem.W.Frag) : List V → Hp → VK → Prop := fun vs H Q => ∃ (a : Addr) (ns : List Int), vs = [V.ref a] ∧ SqT K H a (ns.map V.int) ∧ Q (.int ns.sum) H
def rMaxT (K : PySem.W.Frag) : List V → Hp → VK → Prop := fun vs H Q => ∃ (a : Addr) (ns : List Int), vs = [V.ref a] ∧ SqT K H a (ns.map V.int) ∧ 0 < ns.length ∧ ∀ m, m ∈ ns → (∀ y, y ∈ ns → y ≤ m) → Q (.int m) H
section
variable {X : Cx} {Wx : WX}
theorem cr_sumT (hc : X.calm = true) : CallR X (.builtin "sum") (rSumT X.K) := by
  intro pins s σ H vs us Q I r h
  obtain ⟨a, ns, rfl, hs, q⟩ := h
  obtain ⟨its, rv, hl, _⟩ := I.tuple hs
  rw [Vals.ref1 r]
  exact sumT_raw (I.ok.hd hc) hl rv.ints fun h' tk t' hk => ⟨.int _, H, I.kept hk, ⟨_, rfl⟩, q⟩
theorem cr_maxT (hc : X.calm = true) : CallR X (.builtin "max") (rMaxT X.K) := by
  intro pins s σ H vs us Q I r h
  obtain ⟨a, ns, rfl, hs, hne, q⟩ := h
  obtain ⟨its, rv, hl, _⟩ := I.tuple hs
  rw [Vals.ref1 r]
  exact maxT_raw (I.ok.hd hc) hl rv.ints hne fun h' tk m t' hk h1 h2 => ⟨.int _, H, I.kept hk, ⟨_, rfl⟩, q m h1 h2⟩
/-- sum, max of a tuple or a list of ints -/
def fSumA : PyData → Option PyData
  | .tuple ds => fSum (.list ds)
  | d => fSum d
def fMaxA : PyData → Option PyData
  | .tuple ds => fMaxL (.list ds)
  | d => fMaxL d
theorem o_sumA : OpA X Wx (gA1 fSumA) (fun xs H Q => rSum X.K xs H Q ∨ rSumT X.K xs H Q) := opA1 (r := fun x H Q => rSum X.K [x] H Q ∨ rSumT X.K [x] H Q) (op1_of fun σ H G ad st v w x d Q rs rv e1 e h => by
  unfold fSumA at e
  split at e
  · unfold fSum at e
    obtain ⟨bs, e2, rfl⟩ := Option.map_eq_some_iff.mp e
    obtain ⟨p, vs, rfl, s1, r1, d1⟩ := der_tup rs rv e1
    obtain rfl := ints_rel r1 e2
    exact .inr ⟨p, bs, rfl, s1, h.val rs (.int _)⟩
  · unfold fSum at e
    split at e
    · obtain ⟨bs, e2, rfl⟩ := Option.map_eq_some_iff.mp e
      obtain ⟨p, vs, rfl, s1, r1⟩ := der_lst rs rv e1
      obtain rfl := ints_rel r1 e2
      exact .inl ⟨p, bs, rfl, s1, h.val rs (.int _)⟩
    · cases e) fun _ _ _ h => h
theorem fMaxL_some {x d : PyData} (e : fMaxL x = some d) : ∃ ds n ns, x = .list ds ∧ intsD ds = some (n :: ns) ∧ d = .int (ns.foldl max n) := by
  cases x with
  | list ds =>
    show ∃ ds' n ns, _
    have e' : (match intsD ds with | some (n :: ns) => some (PyData.int (ns.foldl max n)) | _ => none) = some d := e
    cases hi : intsD ds with
    | none => rw [hi] at e'; cases e'
    | some l =>
      cases l with
      | nil => rw [hi] at e'; cases e'
      | cons n ns => rw [hi] at e'; cases e'; exact ⟨ds, n, ns, rfl, hi, rfl⟩
  | _ => cases e
theorem o_maxA : OpA X Wx (gA1 fMaxA) (fun xs H Q => rMax X.K xs H Q ∨ rMaxT X.K xs H Q) := opA1 (r := fun x H Q => rMax X.K [x] H Q ∨ rMaxT X.K [x] H Q) (op1_of fun σ H G ad st v w x d Q rs rv e1 e h => by
  have best : ∀ (n : Int) (ns : List Int) (m : Int), m ∈ n :: ns → (∀ y, y ∈ n :: ns → y ≤ m) → m = ns.foldl max n := fun n ns m hm hy => by
    have a := foldl_max_ge ns n
    have b := hy _ (foldl_max_mem ns n)
    have c : m ≤ ns.foldl max n := by rcases List.mem_cons.mp hm with rfl | z; exact a.1; exact a.2 m z
    omega
  unfold fMaxA at e
  split at e
  · obtain ⟨ds, n, ns, hq, e2, rfl⟩ := fMaxL_some e
    cases hq
    obtain ⟨p, vs, rfl, s1, r1, d1⟩ := der_tup rs rv e1
    obtain rfl := ints_rel r1 e2
    refine .inr ⟨p, n :: ns, rfl, s1, by simp, fun m hm hy => ?_⟩
    rw [best n ns m hm hy]
    exact h.val rs (.int _)
  · obtain ⟨ds, n, ns, rfl, e2, rfl⟩ := fMaxL_some e
    obtain ⟨p, vs, rfl, s1, r1⟩ := der_lst rs rv e1
    obtain rfl := ints_rel r1 e2
    refine .inl ⟨p, n :: ns, rfl, s1, by simp, fun m hm hy => ?_⟩
    rw [best n ns m hm hy]
    exact h.val rs (.int _)) fun _ _ _ h => h
end
end Fx

namespace LK
open PySem PySem.Spec L2 Fx
open PyProof.Rows hiding St
def top (i : Nat) : Stmt := PySem.Challenge.pw_wheelturns_k04_whole_ways_between_settin.main.body.getD i (.Pass ⟨0, 0, 0, 0⟩)
abbrev FUEL : Nat := 1099511627776
/-- what the top has written -/
structure Txt (w : World) (K : PySem.W.Frag) (mg : Str → Option Value) : Prop where
  z_abs : mg "abs" = none
  z_all : mg "all" = none
  z_bool : mg "bool" = none
  z_enumerate : mg "enumerate" = none
  z_int : mg "int" = none
  z_isinstance : mg "isinstance" = none
  z_len : mg "len" = none
  z_list : mg "list" = none
  z_max : mg "max" = none
  z_min : mg "min" = none
  z_range : mg "range" = none
  z_set : mg "set" = none
  z_str : mg "str" = none
  z_sum : mg "sum" = none
  z_tuple : mg "tuple" = none
  c_MAX_LENGTH : ∃ t, mg "MAX_LENGTH" = some (.int 31 t)
  c_MAX_ROWS : ∃ t, mg "MAX_ROWS" = some (.int 12 t)
  c_TURNS : ∃ a, mg "TURNS" = some (.ref a) ∧ ∀ (P : Program) (w : World) (G : Hp), Dv ⟨P, w, K⟩ G (.ref a) (.tuple [(.str "C+"), (.str "C-"), (.str "R+"), (.str "R-")])
  e_InvalidLengths : ExcK K mg "InvalidLengths"
  e_InvalidNumber : ExcK K mg "InvalidNumber"
  e_InvalidScript : ExcK K mg "InvalidScript"
  e_InvalidSetting : ExcK K mg "InvalidSetting"
  e_InvalidTurn : ExcK K mg "InvalidTurn"
/-! is_integer -/
abbrev s_is_integer : Stmt := top 12
abbrev N_is_integer : List Str := ["value", "low", "high"]
theorem sc_is_integer : FnScope N_is_integer ["value", "low", "high"] (defScope s_is_integer) := ⟨rfl, rfl, rfl, by decide +kernel, rfl, by decide +kernel, by decide +kernel⟩
def b_is_integer : SF :=
    sRet (cAnd (c1 (g1 (fIsi "int")) (cVar 0)) (cAnd (cNot (c1 (g1 (fIsi "bool")) (cVar 0))) (cChain (g2 (fCmpI pLe)) (g2 (fCmpI pLe)) (cVar 1) (cVar 0) (cVar 2))))
def d_is_integer : Den := defF 0 b_is_integer
theorem ok_is_integer {P : Program} {w : World} {K : PySem.W.Frag} {mg : Str → Option Value} {base : Heap} {f : Addr} {fd : FuncData} (F : Fun K "is_integer" "is_integer" s_is_integer f fd) (T : Txt w K mg) :
    FnOk P w K mg base (L2N.CX P w) 1 f fd ["value", "low", "high"] (spD ⟨P, w, K⟩ mg 3 d_is_integer) :=
  fd_of (j := 0) F sc_is_integer rfl fun cdv A outer s0 H E hr =>
    (fss_one (fs_ret (fe_and (fe_isi kit_int (fe_var 0 (pv 0)) rfl T.z_isinstance rfl T.z_int PyProof.Rows.boot_int) (fe_and (fe_not (fe_isi kit_bool (fe_var 0 (pv 0)) rfl T.z_isinstance rfl T.z_bool PyProof.Rows.boot_bool)) (fe_one (fe_chain (o_cmpI (p := pLe)) (o_cmpI (p := pLe)) op_le op_le (fe_var 1 (pv 1)) (fe_var 0 (pv 0)) (fe_var 2 (pv 2))))))))
/-! is_turn -/
abbrev s_is_turn : Stmt := top 17
abbrev N_is_turn : List Str := ["value"]
theorem sc_is_turn : FnScope N_is_turn ["value"] (defScope s_is_turn) := ⟨rfl, rfl, rfl, by decide +kernel, rfl, by decide +kernel, by decide +kernel⟩
def b_is_turn : SF :=
    sRet (cAnd (c1 (g1 (fIsi "str")) (cVar 0)) (c2 (g2 (fIn' false)) (cVar 0) (cD (.tuple [(.str "C+"), (.str "C-"), (.str "R+"), (.str "R-")]))))
def d_is_turn : Den := defF 0 b_is_turn
theorem ok_is_turn {P : Program} {w : World} {K : PySem.W.Frag} {mg : Str → Option Value} {base : Heap} {f : Addr} {fd : FuncData} (F : Fun K "is_turn" "is_turn" s_is_turn f fd) (T : Txt w K mg) :
    FnOk P w K mg base (L2N.CX P w) 1 f fd ["value"] (spD ⟨P, w, K⟩ mg 1 d_is_turn) :=
  fd_of (j := 0) F sc_is_turn rfl fun cdv A outer s0 H E hr =>
    (fss_one (fs_ret (fe_and (fe_isi kit_str (fe_var 0 (pv 0)) rfl T.z_isinstance rfl T.z_str PyProof.Rows.boot_str) (fe_one (fe_cmp (o_in' (neg := false)) (op_in1 (hu_of hr)) (fe_var 0 (pv 0)) (fe_gdat rfl (T.c_TURNS).choose_spec.1 ((T.c_TURNS).choose_spec.2 _ _)) (by first | rfl | with_unfolding_all rfl))))))
/-! next_row -/
abbrev s_next_row : Stmt := top 21
abbrev N_next_row : List Str := ["lengths", "row", "turn"]
theorem sc_next_row : FnScope N_next_row ["lengths", "row", "turn"] (defScope s_next_row) := ⟨rfl, rfl, rfl, by decide +kernel, rfl, by decide +kernel, by decide +kernel⟩
def b_next_row : SF :=
    sSeq (sIf (Fx.tB (c2 (g2 fEq) (cVar 2) (cD (.str "R+")))) (sRet (c2 (g2 fMod) (c2 (g2 fAdd) (cVar 1) (cD (.int 1))) (cA (gA1 fLen) (aCons (cVar 0) (aNil))))) (sNx))
    (sRet (cIf (Fx.tB (c2 (g2 fEq) (cVar 2) (cD (.str "R-")))) (c2 (g2 fMod) (c2 (g2 fSub) (cVar 1) (cD (.int 1))) (cA (gA1 fLen) (aCons (cVar 0) (aNil)))) (cVar 1)))
def d_next_row : Den := defF 0 b_next_row
theorem ok_next_row {P : Program} {w : World} {K : PySem.W.Frag} {mg : Str → Option Value} {base : Heap} {f : Addr} {fd : FuncData} (F : Fun K "next_row" "next_row" s_next_row f fd) (T : Txt w K mg) :
    FnOk P w K mg base (L2N.CX P w) 1 f fd ["lengths", "row", "turn"] (spD ⟨P, w, K⟩ mg 3 d_next_row) :=
  fd_of (j := 0) F sc_next_row rfl fun cdv A outer s0 H E hr =>
    (fss_cons (fs_if (ft_cmp o_eq (op_eqD hr.units) (fe_var 2 (pv 2)) fe_str (nomark _)) (fss_one (fs_ret (fe_mod (fe_add (fe_var 1 (pv 1)) fe_int) (fe_bltn o_len call_lenX rfl T.z_len PySem.boot_len (fa_cons (fe_var 0 (pv 0)) fa_nil))))) fss_nil)
    (fss_one (fs_ret (fe_ife (ft_cmp o_eq (op_eqD hr.units) (fe_var 2 (pv 2)) fe_str (nomark _)) (fe_mod (fe_sub (fe_var 1 (pv 1)) fe_int) (fe_bltn o_len call_lenX rfl T.z_len PySem.boot_len (fa_cons (fe_var 0 (pv 0)) fa_nil))) (fe_var 1 (pv 1))))))
/-! month_lengths -/
abbrev s_month_lengths : Stmt := top 26
abbrev N_month_lengths : List Str := ["leap"]
theorem sc_month_lengths : FnScope N_month_lengths ["leap"] (defScope s_month_lengths) := ⟨rfl, rfl, rfl, by decide +kernel, rfl, by decide +kernel, by decide +kernel⟩
def b_month_lengths : SF :=
    sSeq (sIf (tNotF (Fx.tB (c1 (g1 (fIsi "bool")) (cVar 0)))) (sRaise "InvalidNumber") (sNx))
    (sRet (cA (gSeq .tuple) (aCons (cD (.int 31)) (aCons (cIf (Fx.tB (cVar 0)) (cD (.int 29)) (cD (.int 28))) (aCons (cD (.int 31)) (aCons (cD (.int 30)) (aCons (cD (.int 31)) (aCons (cD (.int 30)) (aCons (cD (.int 31)) (aCons (cD (.int 31)) (aCons (cD (.int 30)) (aCons (cD (.int 31)) (aCons (cD (.int 30)) (aCons (cD (.int 31)) (aNil)))))))))))))))
def d_month_lengths : Den := defF 0 b_month_lengths
theorem ok_month_lengths {P : Program} {w : World} {K : PySem.W.Frag} {mg : Str → Option Value} {base : Heap} {f : Addr} {fd : FuncData} (F : FunD K "month_lengths" "month_lengths" (defArgs s_month_lengths) (defBody s_month_lengths) (defScope s_month_lengths) [] [("leap", .bl false)] f fd) (T : Txt w K mg) :
    FnOk P w K mg base (L2N.CX P w) 1 f fd ["leap"] (spD ⟨P, w, K⟩ mg 1 d_month_lengths) :=
  fd_ofD (j := 0) F sc_month_lengths rfl fun cdv A outer s0 H E hr =>
    (fss_cons (fs_if (ft_not (ft_val (fe_isi kit_bool (fe_var 0 (pv 0)) rfl T.z_isinstance rfl T.z_bool PyProof.Rows.boot_bool))) (fss_one (fs_raiseK T.e_InvalidNumber rfl (L2N.takes_of rfl rfl rfl rfl) rfl)) fss_nil)
    (fss_one (fs_ret (fe_tup (fa_cons fe_int (fa_cons (fe_ife (ft_val (fe_var 0 (pv 0))) fe_int fe_int) (fa_cons fe_int (fa_cons fe_int (fa_cons fe_int (fa_cons fe_int (fa_cons fe_int (fa_cons fe_int (fa_cons fe_int (fa_cons fe_int (fa_cons fe_int (fa_cons fe_int fa_nil))))))))))))))))
/-! layer_of -/
abbrev s_layer_of : Stmt := top 30
abbrev N_layer_of : List Str := ["layers", "goal", "number", "layer"]
theorem sc_layer_of : FnScope N_layer_of ["layers", "goal"] (defScope s_layer_of) := ⟨rfl, rfl, rfl, by decide +kernel, rfl, by decide +kernel, by decide +kernel⟩
def b_layer_of : SF :=
    sRet (c2 (g2 fIx) (cLc (iEnumF (cVar 0)) [2, 3] (gT 2 (gsCons (gN 2) (gsCons (gN 3) gsNil))) (Fx.tB (c2 (g2 (fIn' false)) (cVar 1) (cVar 3))) (cVar 2)) (cD (.int 0)))
def d_layer_of : Den := defF 2 b_layer_of
theorem ok_layer_of {P : Program} {w : World} {K : PySem.W.Frag} {mg : Str → Option Value} {base : Heap} {f : Addr} {fd : FuncData} (F : Fun K "layer_of" "layer_of" s_layer_of f fd) (T : Txt w K mg) :
    FnOk P w K mg base (L2N.CX P w) 1 f fd ["layers", "goal"] (spD ⟨P, w, K⟩ mg 2 d_layer_of) :=
  fd_of (j := 2) F sc_layer_of rfl fun cdv A outer s0 H E hr =>
    (fss_one (fs_ret (fe_ix (hu_of hr) (fe_lc (own := ([("number", 2), ("layer", 3)] : List (Str × Nat))) rfl sc_layer_of.nd (fi_enum rfl T.z_enumerate (fe_var 0 (pv 0))) (blkOk_by (N := N_layer_of) (sc := defScope s_layer_of) (by decide +kernel)) (fun _ _ _ _ _ => (fg_tup rfl (fgs_cons (fg_name (i := 2) sc_layer_of.nd rfl (Or.inl rfl)) (fgs_cons (fg_name (i := 3) sc_layer_of.nd rfl (Or.inl rfl)) fgs_nil)))) (fun _ _ _ _ _ => (fts_one (ft_cmp (o_in' (neg := false)) (op_in1 (hu_of hr)) (fe_var 1 (pv 1)) (fe_var 3 (pv 3)) (by first | rfl | with_unfolding_all rfl)))) (fun _ _ _ _ _ => (fe_var 2 (pv 2))) (by decide)) fe_int (fun _ _ => rfl))))
/-! _law_cell_at -/
abbrev s__law_cell_at : Stmt := top 36
abbrev N__law_cell_at : List Str := ["_law_script", "_law_k"]
theorem sc__law_cell_at : FnScope N__law_cell_at ["_law_script", "_law_k"] (defScope s__law_cell_at) := ⟨rfl, rfl, rfl, by decide +kernel, rfl, by decide +kernel, by decide +kernel⟩
def b__law_cell_at : SF :=
    sSeq (sIf (Fx.tB (c2 (g2 (fCmpI pLt)) (cVar 1) (cA (gA1 fLen) (aCons (cVar 0) (aNil))))) (sRet (c2 (g2 fIx) (cVar 0) (cVar 1))) (sNx))
    (sRet (cD (.int 0)))
def d__law_cell_at : Den := defF 0 b__law_cell_at
theorem ok__law_cell_at {P : Program} {w : World} {K : PySem.W.Frag} {mg : Str → Option Value} {base : Heap} {f : Addr} {fd : FuncData} (F : Fun K "_law_cell_at" "_law_cell_at" s__law_cell_at f fd) (T : Txt w K mg) :
    FnOk P w K mg base (L2N.CX P w) 1 f fd ["_law_script", "_law_k"] (spD ⟨P, w, K⟩ mg 2 d__law_cell_at) :=
  fd_of (j := 0) F sc__law_cell_at rfl fun cdv A outer s0 H E hr =>
    (fss_cons (fs_if (ft_cmp (o_cmpI (p := pLt)) op_lt (fe_var 1 (pv 1)) (fe_bltn o_len call_lenX rfl T.z_len PySem.boot_len (fa_cons (fe_var 0 (pv 0)) fa_nil)) (nomark _)) (fss_one (fs_ret (fe_ix (hu_of hr) (fe_var 0 (pv 0)) (fe_var 1 (pv 1)) (fun _ _ => rfl)))) fss_nil)
    (fss_one (fs_ret fe_int)))
/-! _law_draws -/
abbrev s__law_draws : Stmt := top 37
abbrev N__law_draws : List Str := ["_law_cell", "_law_many", "_law_size", "_law_found", "_law_rest", "_law_stirred", "_law_k"]
theorem sc__law_draws : FnScope N__law_draws ["_law_cell", "_law_many", "_law_size"] (defScope s__law_draws) := ⟨rfl, rfl, rfl, by decide +kernel, rfl, by decide +kernel, by decide +kernel⟩
def b__law_draws : SF :=
    sSeq (sSet 3 (cA gLstH (aNil)))
    (sSeq (sSet 4 (c2 (g2 fMul) (cVar 0) (cA (gA1 fInt) (aCons (c2 (g2 (fCmpI pGe)) (cVar 0) (c2 (g2 fPow) (cD (.int 10)) (cD (.int 18)))) (aNil)))))
    (sSeq (sSet 5 (c2 (g2 fMod) (cVar 0) (cD (.int 2305843009213693951))))
    (sSeq (sFor (fun ρ st => ((aCons (c2 (g2 fAdd) (cVar 1) (cD (.int 3))) (aNil)) ρ st).bind gRange1) (gN 6) (sSeq (sSet 5 (c2 (g2 fMod) (c2 (g2 fAdd) (c2 (g2 fAdd) (c2 (g2 fAdd) (c2 (g2 fMul) (cVar 5) (cVar 5)) (c2 (g2 fMul) (cD (.int 48271)) (cVar 5))) (cVar 6)) (cD (.int 1))) (cD (.int 2305843009213693951))))
    (sIf (tAndF (Fx.tB (c2 (g2 (fCmpI pGt)) (cVar 6) (cD (.int 2)))) (Fx.tB (c2 (g2 (fCmpI pGt)) (cVar 4) (cD (.int 0))))) (sSeq (sExpr (cApp (cVar 3) (c2 (g2 fMod) (cVar 4) (cVar 2))))
    (sSet 4 (c2 (g2 fDiv) (cVar 4) (cVar 2)))) (sIf (Fx.tB (c2 (g2 (fCmpI pGt)) (cVar 6) (cD (.int 2)))) (sExpr (cApp (cVar 3) (c2 (g2 fMod) (c2 (g2 fDiv) (cVar 5) (cD (.int 4096))) (cVar 2)))) (sNx)))))
    (sRet (cVar 3)))))
def d__law_draws : Den := defF 4 b__law_draws
theorem ok__law_draws {P : Program} {w : World} {K : PySem.W.Frag} {mg : Str → Option Value} {base : Heap} {f : Addr} {fd : FuncData} (F : Fun K "_law_draws" "_law_draws" s__law_draws f fd) (T : Txt w K mg) :
    FnOk P w K mg base (L2N.CX P w) 1 f fd ["_law_cell", "_law_many", "_law_size"] (spD ⟨P, w, K⟩ mg 3 d__law_draws) :=
  fd_of (j := 4) F sc__law_draws rfl fun cdv A outer s0 H E hr =>
    (fss_cons (fs_set (i := 3) sc__law_draws.nd rfl (Or.inl rfl) (fe_lstH fa_nil))
    (fss_cons (fs_set (i := 4) sc__law_draws.nd rfl (Or.inl rfl) (fe_mul (fe_var 0 (pv 0)) (fe_type o_int call_int1 rfl T.z_int PyProof.Rows.boot_int (fa_cons (fe_cmp (o_cmpI (p := pGe)) op_ge (fe_var 0 (pv 0)) (fe_pow fe_int fe_int) (nomark _)) fa_nil))))
    (fss_cons (fs_set (i := 5) sc__law_draws.nd rfl (Or.inl rfl) (fe_mod (fe_var 0 (pv 0)) fe_int))
    (fss_cons (fs_for (passes_of rfl) rfl (fi_range1 rfl T.z_range (fa_cons (fe_add (fe_var 1 (pv 1)) fe_int) fa_nil)) (fg_name (i := 6) sc__law_draws.nd rfl (Or.inl rfl)) (fss_cons (fs_set (i := 5) sc__law_draws.nd rfl (Or.inl rfl) (fe_mod (fe_add (fe_add (fe_add (fe_mul (fe_var 5 (pv 5)) (fe_var 5 (pv 5))) (fe_mul fe_int (fe_var 5 (pv 5)))) (fe_var 6 (pv 6))) fe_int) fe_int))
    (fss_one (fs_if (FW.ft (fw_and (ft_cmp (o_cmpI (p := pGt)) op_gt (fe_var 6 (pv 6)) fe_int (nomark _)) (fw_and1 (ft_cmp (o_cmpI (p := pGt)) op_gt (fe_var 4 (pv 4)) fe_int (nomark _))))) (fss_cons (fs_expr (fe_app (fe_var 3 (pv 3)) (fe_mod (fe_var 4 (pv 4)) (fe_var 2 (pv 2)))))
    (fss_one (fs_set (i := 4) sc__law_draws.nd rfl (Or.inl rfl) (fe_div (fe_var 4 (pv 4)) (fe_var 2 (pv 2)))))) (fss_one (fs_if (ft_cmp (o_cmpI (p := pGt)) op_gt (fe_var 6 (pv 6)) fe_int (nomark _)) (fss_one (fs_expr (fe_app (fe_var 3 (pv 3)) (fe_mod (fe_div (fe_var 5 (pv 5)) fe_int) (fe_var 2 (pv 2)))))) fss_nil))))))
    (fss_one (fs_ret (fe_var 3 (pv 3))))))))
/-! _law_take -/
abbrev s__law_take : Stmt := top 40
abbrev N__law_take : List Str := ["_law_bag_here", "_law_many"]
theorem sc__law_take : FnScope N__law_take ["_law_bag_here", "_law_many"] (defScope s__law_take) := ⟨rfl, rfl, rfl, by decide +kernel, rfl, by decide +kernel, by decide +kernel⟩
def b__law_take : SF :=
    sSeq (sPut (cVar 0) (cD (.int 1)) (c2 (g2 fAdd) (c2 (g2 fIx) (cVar 0) (cD (.int 1))) (cD (.int 1))))
    (sRet (c2 (g2 fMod) (c2 (g2 fIx) (c2 (g2 fIx) (cVar 0) (cD (.int 0))) (c2 (g2 fMod) (c2 (g2 fIx) (cVar 0) (cD (.int 1))) (cA (gA1 fLen) (aCons (c2 (g2 fIx) (cVar 0) (cD (.int 0))) (aNil))))) (cVar 1)))
def d__law_take : Den := defF 0 b__law_take
theorem ok__law_take {P : Program} {w : World} {K : PySem.W.Frag} {mg : Str → Option Value} {base : Heap} {f : Addr} {fd : FuncData} (F : Fun K "_law_take" "_law_take" s__law_take f fd) (T : Txt w K mg) :
    FnOk P w K mg base (L2N.CX P w) 1 f fd ["_law_bag_here", "_law_many"] (spD ⟨P, w, K⟩ mg 2 d__law_take) :=
  fd_of (j := 0) F sc__law_take rfl fun cdv A outer s0 H E hr =>
    (fss_cons (fs_put (hu_of hr) (fe_var 0 (pv 0)) fe_int (fe_add (fe_ix (hu_of hr) (fe_var 0 (pv 0)) fe_int (fun _ _ => rfl)) fe_int))
    (fss_one (fs_ret (fe_mod (fe_ix (hu_of hr) (fe_ix (hu_of hr) (fe_var 0 (pv 0)) fe_int (fun _ _ => rfl)) (fe_mod (fe_ix (hu_of hr) (fe_var 0 (pv 0)) fe_int (fun _ _ => rfl)) (fe_bltn o_len call_lenX rfl T.z_len PySem.boot_len (fa_cons (fe_ix (hu_of hr) (fe_var 0 (pv 0)) fe_int (fun _ _ => rfl)) fa_nil))) (fun _ _ => rfl)) (fe_var 1 (pv 1))))))
/-! _law_after -/
abbrev s__law_after : Stmt := top 43
abbrev N__law_after : List Str := ["_law_lengths_here", "_law_setting", "_law_turn", "_law_line", "_law_spot"]
theorem sc__law_after : FnScope N__law_after ["_law_lengths_here", "_law_setting", "_law_turn"] (defScope s__law_after) := ⟨rfl, rfl, rfl, by decide +kernel, rfl, by decide +kernel, by decide +kernel⟩
def b__law_after : SF :=
    sSeq (sAsg (gT 2 (gsCons (gN 3) (gsCons (gN 4) gsNil))) (cVar 1))
    (sSeq (sIf (Fx.tB (c2 (g2 fEq) (c2 (g2 fIx) (cVar 2) (cD (.int 0))) (cD (.str "C")))) (sSeq (sSet 4 (c2 (g2 fAdd) (cVar 4) (cIf (Fx.tB (c2 (g2 fEq) (cVar 2) (cD (.str "C+")))) (cD (.int 1)) (c2 (g2 fSub) (c2 (g2 fIx) (cVar 0) (cVar 3)) (cD (.int 1))))))
    (sRet (cA (gSeq .tuple) (aCons (cVar 3) (aCons (cIf (Fx.tB (c2 (g2 (fCmpI pGe)) (cVar 4) (c2 (g2 fIx) (cVar 0) (cVar 3)))) (c2 (g2 fSub) (cVar 4) (c2 (g2 fIx) (cVar 0) (cVar 3))) (cVar 4)) (aNil)))))) (sNx))
    (sSeq (sSet 3 (cIf (Fx.tB (c2 (g2 fEq) (cVar 2) (cD (.str "R+")))) (c2 (g2 fAdd) (cVar 3) (cD (.int 1))) (c2 (g2 fSub) (cVar 3) (cD (.int 1)))))
    (sSeq (sIf (Fx.tB (c2 (g2 fEq) (cVar 3) (cA (gA1 fLen) (aCons (cVar 0) (aNil))))) (sSet 3 (cD (.int 0))) (sIf (Fx.tB (c2 (g2 (fCmpI pLt)) (cVar 3) (cD (.int 0)))) (sSet 3 (c2 (g2 fSub) (cA (gA1 fLen) (aCons (cVar 0) (aNil))) (cD (.int 1)))) (sNx)))
    (sRet (cA (gSeq .tuple) (aCons (cVar 3) (aCons (cIf (Fx.tB (c2 (g2 (fCmpI pLt)) (cVar 4) (c2 (g2 fIx) (cVar 0) (cVar 3)))) (cVar 4) (c2 (g2 fSub) (c2 (g2 fIx) (cVar 0) (cVar 3)) (cD (.int 1)))) (aNil))))))))
def d__law_after : Den := defF 2 b__law_after
theorem ok__law_after {P : Program} {w : World} {K : PySem.W.Frag} {mg : Str → Option Value} {base : Heap} {f : Addr} {fd : FuncData} (F : Fun K "_law_after" "_law_after" s__law_after f fd) (T : Txt w K mg) :
    FnOk P w K mg base (L2N.CX P w) 1 f fd ["_law_lengths_here", "_law_setting", "_law_turn"] (spD ⟨P, w, K⟩ mg 3 d__law_after) :=
  fd_of (j := 2) F sc__law_after rfl fun cdv A outer s0 H E hr =>
    (fss_cons (fs_asg (fe_var 1 (pv 1)) (fg_tup rfl (fgs_cons (fg_name (i := 3) sc__law_after.nd rfl (Or.inl rfl)) (fgs_cons (fg_name (i := 4) sc__law_after.nd rfl (Or.inl rfl)) fgs_nil))))
    (fss_cons (fs_if (ft_cmp o_eq (op_eqD hr.units) (fe_ix (hu_of hr) (fe_var 2 (pv 2)) fe_int (fun _ _ => rfl)) fe_str (nomark _)) (fss_cons (fs_set (i := 4) sc__law_after.nd rfl (Or.inl rfl) (fe_add (fe_var 4 (pv 4)) (fe_ife (ft_cmp o_eq (op_eqD hr.units) (fe_var 2 (pv 2)) fe_str (nomark _)) fe_int (fe_sub (fe_ix (hu_of hr) (fe_var 0 (pv 0)) (fe_var 3 (pv 3)) (fun _ _ => rfl)) fe_int))))
    (fss_one (fs_ret (fe_tup (fa_cons (fe_var 3 (pv 3)) (fa_cons (fe_ife (ft_cmp (o_cmpI (p := pGe)) op_ge (fe_var 4 (pv 4)) (fe_ix (hu_of hr) (fe_var 0 (pv 0)) (fe_var 3 (pv 3)) (fun _ _ => rfl)) (nomark _)) (fe_sub (fe_var 4 (pv 4)) (fe_ix (hu_of hr) (fe_var 0 (pv 0)) (fe_var 3 (pv 3)) (fun _ _ => rfl))) (fe_var 4 (pv 4))) fa_nil)))))) fss_nil)
    (fss_cons (fs_set (i := 3) sc__law_after.nd rfl (Or.inl rfl) (fe_ife (ft_cmp o_eq (op_eqD hr.units) (fe_var 2 (pv 2)) fe_str (nomark _)) (fe_add (fe_var 3 (pv 3)) fe_int) (fe_sub (fe_var 3 (pv 3)) fe_int)))
    (fss_cons (fs_if (ft_cmp o_eq (op_eqD hr.units) (fe_var 3 (pv 3)) (fe_bltn o_len call_lenX rfl T.z_len PySem.boot_len (fa_cons (fe_var 0 (pv 0)) fa_nil)) (nomark _)) (fss_one (fs_set (i := 3) sc__law_after.nd rfl (Or.inl rfl) fe_int)) (fss_one (fs_if (ft_cmp (o_cmpI (p := pLt)) op_lt (fe_var 3 (pv 3)) fe_int (nomark _)) (fss_one (fs_set (i := 3) sc__law_after.nd rfl (Or.inl rfl) (fe_sub (fe_bltn o_len call_lenX rfl T.z_len PySem.boot_len (fa_cons (fe_var 0 (pv 0)) fa_nil)) fe_int))) fss_nil)))
    (fss_one (fs_ret (fe_tup (fa_cons (fe_var 3 (pv 3)) (fa_cons (fe_ife (ft_cmp (o_cmpI (p := pLt)) op_lt (fe_var 4 (pv 4)) (fe_ix (hu_of hr) (fe_var 0 (pv 0)) (fe_var 3 (pv 3)) (fun _ _ => rfl)) (nomark _)) (fe_var 4 (pv 4)) (fe_sub (fe_ix (hu_of hr) (fe_var 0 (pv 0)) (fe_var 3 (pv 3)) (fun _ _ => rfl)) fe_int)) fa_nil)))))))))
/-! is_lengths -/
abbrev s_is_lengths : Stmt := top 13
abbrev N_is_lengths : List Str := ["value", "one"]
theorem sc_is_lengths : FnScope N_is_lengths ["value"] (defScope s_is_lengths) := ⟨rfl, rfl, rfl, by decide +kernel, rfl, by decide +kernel, by decide +kernel⟩
def b_is_lengths : SF :=
    sSeq (sIf (tOrF (tNotF (Fx.tB (c1 (g1 (fIsi "tuple")) (cVar 0)))) (tNotF (Fx.tB (cChain (g2 (fCmpI pLe)) (g2 (fCmpI pLe)) (cD (.int 1)) (cA (gA1 fLen) (aCons (cVar 0) (aNil))) (cD (.int 12)))))) (sRet (cD (.bool false))) (sNx))
    (sRet (cA (gA1 fAll) (aCons (cLc (iSeqF (cVar 0)) [1] (gN 1) tYesF (cA d_is_integer (aCons (cVar 1) (aCons (cD (.int 1)) (aCons (cD (.int 31)) (aNil)))))) (aNil))))
def d_is_lengths : Den := defF 1 b_is_lengths
theorem ok_is_lengths {P : Program} {w : World} {K : PySem.W.Frag} {mg : Str → Option Value} {base : Heap} {f : Addr} {fd : FuncData} (F : Fun K "is_lengths" "is_lengths" s_is_lengths f fd) (T : Txt w K mg) (G_is_integer : DefOk P w K mg base "is_integer" 1 ["value", "low", "high"] d_is_integer) :
    FnOk P w K mg base (L2N.CX P w) 2 f fd ["value"] (spD ⟨P, w, K⟩ mg 1 d_is_lengths) :=
  fd_of (j := 1) F sc_is_lengths rfl fun cdv A outer s0 H E hr =>
    (fss_cons (fs_if (FW.ft (fw_or (ft_not (ft_val (fe_isi kit_tuple (fe_var 0 (pv 0)) rfl T.z_isinstance rfl T.z_tuple PyProof.Rows.boot_tuple))) (fw_or1 (ft_not (ft_chain (o_cmpI (p := pLe)) (o_cmpI (p := pLe)) op_le op_le fe_int (fe_bltn o_len call_lenX rfl T.z_len PySem.boot_len (fa_cons (fe_var 0 (pv 0)) fa_nil)) (fe_gint rfl (T.c_MAX_ROWS).choose_spec)))))) (fss_one (fs_ret fe_bl)) fss_nil)
    (fss_one (fs_ret (fe_bltn o_all (cr_all rfl) rfl T.z_all PyProof.Rows.boot_all (fa_cons (fe_lc (own := ([("one", 1)] : List (Str × Nat))) rfl sc_is_lengths.nd (fi_seq (fe_var 0 (pv 0))) (blkOk_by (N := N_is_lengths) (sc := defScope s_is_lengths) (by decide +kernel)) (fun _ _ _ _ _ => (fg_name (i := 1) sc_is_lengths.nd rfl (Or.inl rfl))) (fun _ _ _ _ _ => fts_nil) (fun _ _ _ _ _ => (fe_callK G_is_integer takes0N (hr.mono (by decide)) rfl rfl (fa_cons (fe_var 1 (pv 1)) (fa_cons fe_int (fa_cons (fe_gint rfl (T.c_MAX_LENGTH).choose_spec) fa_nil))))) (by decide)) fa_nil)))))
/-! fits -/
abbrev s_fits : Stmt := top 14
abbrev N_fits : List Str := ["lengths", "value"]
theorem sc_fits : FnScope N_fits ["lengths", "value"] (defScope s_fits) := ⟨rfl, rfl, rfl, by decide +kernel, rfl, by decide +kernel, by decide +kernel⟩
def b_fits : SF :=
    sSeq (sIf (tOrF (tNotF (Fx.tB (c1 (g1 (fIsi "tuple")) (cVar 1)))) (tOrF (Fx.tB (c2 (g2 fNe) (cA (gA1 fLen) (aCons (cVar 1) (aNil))) (cD (.int 2)))) (tNotF (Fx.tB (cA d_is_integer (aCons (c2 (g2 fIx) (cVar 1) (cD (.int 0))) (aCons (cD (.int 0)) (aCons (c2 (g2 fSub) (cA (gA1 fLen) (aCons (cVar 0) (aNil))) (cD (.int 1))) (aNil))))))))) (sRet (cD (.bool false))) (sNx))
    (sRet (cA d_is_integer (aCons (c2 (g2 fIx) (cVar 1) (cD (.int 1))) (aCons (cD (.int 0)) (aCons (c2 (g2 fSub) (c2 (g2 fIx) (cVar 0) (c2 (g2 fIx) (cVar 1) (cD (.int 0)))) (cD (.int 1))) (aNil))))))
def d_fits : Den := defF 0 b_fits
theorem ok_fits {P : Program} {w : World} {K : PySem.W.Frag} {mg : Str → Option Value} {base : Heap} {f : Addr} {fd : FuncData} (F : Fun K "fits" "fits" s_fits f fd) (T : Txt w K mg) (G_is_integer : DefOk P w K mg base "is_integer" 1 ["value", "low", "high"] d_is_integer) :
    FnOk P w K mg base (L2N.CX P w) 2 f fd ["lengths", "value"] (spD ⟨P, w, K⟩ mg 2 d_fits) :=
  fd_of (j := 0) F sc_fits rfl fun cdv A outer s0 H E hr =>
    (fss_cons (fs_if (FW.ft (fw_or (ft_not (ft_val (fe_isi kit_tuple (fe_var 1 (pv 1)) rfl T.z_isinstance rfl T.z_tuple PyProof.Rows.boot_tuple))) (fw_or (ft_cmp o_ne (op_neD hr.units) (fe_bltn o_len call_lenX rfl T.z_len PySem.boot_len (fa_cons (fe_var 1 (pv 1)) fa_nil)) fe_int (nomark _)) (fw_or1 (ft_not (ft_val (fe_callK G_is_integer (L2N.takes_of rfl rfl rfl rfl) (hr.mono (by decide)) rfl rfl (fa_cons (fe_ix (hu_of hr) (fe_var 1 (pv 1)) fe_int (fun _ _ => rfl)) (fa_cons fe_int (fa_cons (fe_sub (fe_bltn o_len call_lenX rfl T.z_len PySem.boot_len (fa_cons (fe_var 0 (pv 0)) fa_nil)) fe_int) fa_nil)))))))))) (fss_one (fs_ret fe_bl)) fss_nil)
    (fss_one (fs_ret (fe_callK G_is_integer (L2N.takes_of rfl rfl rfl rfl) (hr.mono (by decide)) rfl rfl (fa_cons (fe_ix (hu_of hr) (fe_var 1 (pv 1)) fe_int (fun _ _ => rfl)) (fa_cons fe_int (fa_cons (fe_sub (fe_ix (hu_of hr) (fe_var 0 (pv 0)) (fe_ix (hu_of hr) (fe_var 1 (pv 1)) fe_int (fun _ _ => rfl)) (fun _ _ => rfl)) fe_int) fa_nil)))))))
/-! need_turn -/
abbrev s_need_turn : Stmt := top 18
abbrev N_need_turn : List Str := ["value"]
theorem sc_need_turn : FnScope N_need_turn ["value"] (defScope s_need_turn) := ⟨rfl, rfl, rfl, by decide +kernel, rfl, by decide +kernel, by decide +kernel⟩
def b_need_turn : SF :=
    sIf (tNotF (Fx.tB (cA d_is_turn (aCons (cVar 0) (aNil))))) (sRaise "InvalidTurn") (sNx)
def d_need_turn : Den := defF 0 b_need_turn
theorem ok_need_turn {P : Program} {w : World} {K : PySem.W.Frag} {mg : Str → Option Value} {base : Heap} {f : Addr} {fd : FuncData} (F : Fun K "need_turn" "need_turn" s_need_turn f fd) (T : Txt w K mg) (G_is_turn : DefOk P w K mg base "is_turn" 1 ["value"] d_is_turn) :
    FnOk P w K mg base (L2N.CX P w) 2 f fd ["value"] (spD ⟨P, w, K⟩ mg 1 d_need_turn) :=
  fd_of (j := 0) F sc_need_turn rfl fun cdv A outer s0 H E hr =>
    (fss_one (fs_if (ft_not (ft_val (fe_callK G_is_turn (L2N.takes_of rfl rfl rfl rfl) (hr.mono (by decide)) rfl rfl (fa_cons (fe_var 0 (pv 0)) fa_nil)))) (fss_one (fs_raiseK T.e_InvalidTurn rfl (L2N.takes_of rfl rfl rfl rfl) rfl)) fss_nil))
/-! is_script -/
abbrev s_is_script : Stmt := top 19
abbrev N_is_script : List Str := ["value", "most", "turn"]
theorem sc_is_script : FnScope N_is_script ["value", "most"] (defScope s_is_script) := ⟨rfl, rfl, rfl, by decide +kernel, rfl, by decide +kernel, by decide +kernel⟩
def b_is_script : SF :=
    sRet (cAnd (c1 (g1 (fIsi "tuple")) (cVar 0)) (cAnd (c2 (g2 (fCmpI pLe)) (cA (gA1 fLen) (aCons (cVar 0) (aNil))) (cVar 1)) (cA (gA1 fAll) (aCons (cLc (iSeqF (cVar 0)) [2] (gN 2) tYesF (cA d_is_turn (aCons (cVar 2) (aNil)))) (aNil)))))
def d_is_script : Den := defF 1 b_is_script
theorem ok_is_script {P : Program} {w : World} {K : PySem.W.Frag} {mg : Str → Option Value} {base : Heap} {f : Addr} {fd : FuncData} (F : Fun K "is_script" "is_script" s_is_script f fd) (T : Txt w K mg) (G_is_turn : DefOk P w K mg base "is_turn" 1 ["value"] d_is_turn) :
    FnOk P w K mg base (L2N.CX P w) 2 f fd ["value", "most"] (spD ⟨P, w, K⟩ mg 2 d_is_script) :=
  fd_of (j := 1) F sc_is_script rfl fun cdv A outer s0 H E hr =>
    (fss_one (fs_ret (fe_and (fe_isi kit_tuple (fe_var 0 (pv 0)) rfl T.z_isinstance rfl T.z_tuple PyProof.Rows.boot_tuple) (fe_and (fe_cmp (o_cmpI (p := pLe)) op_le (fe_bltn o_len call_lenX rfl T.z_len PySem.boot_len (fa_cons (fe_var 0 (pv 0)) fa_nil)) (fe_var 1 (pv 1)) (nomark _)) (fe_one (fe_bltn o_all (cr_all rfl) rfl T.z_all PyProof.Rows.boot_all (fa_cons (fe_lc (own := ([("turn", 2)] : List (Str × Nat))) rfl sc_is_script.nd (fi_seq (fe_var 0 (pv 0))) (blkOk_by (N := N_is_script) (sc := defScope s_is_script) (by decide +kernel)) (fun _ _ _ _ _ => (fg_name (i := 2) sc_is_script.nd rfl (Or.inl rfl))) (fun _ _ _ _ _ => fts_nil) (fun _ _ _ _ _ => (fe_callK G_is_turn takes0N (hr.mono (by decide)) rfl rfl (fa_cons (fe_var 2 (pv 2)) fa_nil))) (by decide)) fa_nil)))))))
/-! after_turn -/
abbrev s_after_turn : Stmt := top 22
abbrev N_after_turn : List Str := ["lengths", "setting", "turn", "row", "column", "later"]
theorem sc_after_turn : FnScope N_after_turn ["lengths", "setting", "turn"] (defScope s_after_turn) := ⟨rfl, rfl, rfl, by decide +kernel, rfl, by decide +kernel, by decide +kernel⟩
def b_after_turn : SF :=
    sSeq (sAsg (gT 2 (gsCons (gN 3) (gsCons (gN 4) gsNil))) (cVar 1))
    (sSeq (sIf (Fx.tB (c2 (g2 fEq) (cVar 2) (cD (.str "C+")))) (sRet (cA (gSeq .tuple) (aCons (cVar 3) (aCons (c2 (g2 fMod) (c2 (g2 fAdd) (cVar 4) (cD (.int 1))) (c2 (g2 fIx) (cVar 0) (cVar 3))) (aNil))))) (sNx))
    (sSeq (sIf (Fx.tB (c2 (g2 fEq) (cVar 2) (cD (.str "C-")))) (sRet (cA (gSeq .tuple) (aCons (cVar 3) (aCons (c2 (g2 fMod) (c2 (g2 fSub) (cVar 4) (cD (.int 1))) (c2 (g2 fIx) (cVar 0) (cVar 3))) (aNil))))) (sNx))
    (sSeq (sSet 5 (cA d_next_row (aCons (cVar 0) (aCons (cVar 3) (aCons (cVar 2) (aNil))))))
    (sRet (cA (gSeq .tuple) (aCons (cVar 5) (aCons (cA (gA2 fMin2) (aCons (cVar 4) (aCons (c2 (g2 fSub) (c2 (g2 fIx) (cVar 0) (cVar 5)) (cD (.int 1))) (aNil)))) (aNil))))))))
def d_after_turn : Den := defF 3 b_after_turn
theorem ok_after_turn {P : Program} {w : World} {K : PySem.W.Frag} {mg : Str → Option Value} {base : Heap} {f : Addr} {fd : FuncData} (F : Fun K "after_turn" "after_turn" s_after_turn f fd) (T : Txt w K mg) (G_next_row : DefOk P w K mg base "next_row" 1 ["lengths", "row", "turn"] d_next_row) :
    FnOk P w K mg base (L2N.CX P w) 2 f fd ["lengths", "setting", "turn"] (spD ⟨P, w, K⟩ mg 3 d_after_turn) :=
  fd_of (j := 3) F sc_after_turn rfl fun cdv A outer s0 H E hr =>
    (fss_cons (fs_asg (fe_var 1 (pv 1)) (fg_tup rfl (fgs_cons (fg_name (i := 3) sc_after_turn.nd rfl (Or.inl rfl)) (fgs_cons (fg_name (i := 4) sc_after_turn.nd rfl (Or.inl rfl)) fgs_nil))))
    (fss_cons (fs_if (ft_cmp o_eq (op_eqD hr.units) (fe_var 2 (pv 2)) fe_str (nomark _)) (fss_one (fs_ret (fe_tup (fa_cons (fe_var 3 (pv 3)) (fa_cons (fe_mod (fe_add (fe_var 4 (pv 4)) fe_int) (fe_ix (hu_of hr) (fe_var 0 (pv 0)) (fe_var 3 (pv 3)) (fun _ _ => rfl))) fa_nil))))) fss_nil)
    (fss_cons (fs_if (ft_cmp o_eq (op_eqD hr.units) (fe_var 2 (pv 2)) fe_str (nomark _)) (fss_one (fs_ret (fe_tup (fa_cons (fe_var 3 (pv 3)) (fa_cons (fe_mod (fe_sub (fe_var 4 (pv 4)) fe_int) (fe_ix (hu_of hr) (fe_var 0 (pv 0)) (fe_var 3 (pv 3)) (fun _ _ => rfl))) fa_nil))))) fss_nil)
    (fss_cons (fs_set (i := 5) sc_after_turn.nd rfl (Or.inl rfl) (fe_callK G_next_row (L2N.takes_of rfl rfl rfl rfl) (hr.mono (by decide)) rfl rfl (fa_cons (fe_var 0 (pv 0)) (fa_cons (fe_var 3 (pv 3)) (fa_cons (fe_var 2 (pv 2)) fa_nil)))))
    (fss_one (fs_ret (fe_tup (fa_cons (fe_var 5 (pv 5)) (fa_cons (fe_bltn o_min2 (call_min2 rfl) rfl T.z_min PyProof.Rows.boot_min (fa_cons (fe_var 4 (pv 4)) (fa_cons (fe_sub (fe_ix (hu_of hr) (fe_var 0 (pv 0)) (fe_var 5 (pv 5)) (fun _ _ => rfl)) fe_int) fa_nil))) fa_nil)))))))))
/-! _law_bag -/
abbrev s__law_bag : Stmt := top 38
abbrev N__law_bag : List Str := ["_law_script", "_law_k"]
theorem sc__law_bag : FnScope N__law_bag ["_law_script", "_law_k"] (defScope s__law_bag) := ⟨rfl, rfl, rfl, by decide +kernel, rfl, by decide +kernel, by decide +kernel⟩
def b__law_bag : SF :=
    sRet (cA gLstH (aCons (cA d__law_draws (aCons (cA d__law_cell_at (aCons (cVar 0) (aCons (cVar 1) (aNil)))) (aCons (cD (.int 400)) (aCons (cD (.int 1000)) (aNil))))) (aCons (cD (.int 0)) (aNil))))
def d__law_bag : Den := defFH 0 b__law_bag
theorem ok__law_bag {P : Program} {w : World} {K : PySem.W.Frag} {mg : Str → Option Value} {base : Heap} {f : Addr} {fd : FuncData} (F : Fun K "_law_bag" "_law_bag" s__law_bag f fd) (T : Txt w K mg) (G__law_draws : DefOk P w K mg base "_law_draws" 1 ["_law_cell", "_law_many", "_law_size"] d__law_draws) (G__law_cell_at : DefOk P w K mg base "_law_cell_at" 1 ["_law_script", "_law_k"] d__law_cell_at) :
    FnOk P w K mg base (L2N.CX P w) 2 f fd ["_law_script", "_law_k"] (spD ⟨P, w, K⟩ mg 2 d__law_bag) :=
  fd_ofH (j := 0) F sc__law_bag rfl fun cdv A outer s0 H E hr =>
    (fss_one (fs_ret (fe_lstH (fa_cons (fe_callK G__law_draws (L2N.takes_of rfl rfl rfl rfl) (hr.mono (by decide)) rfl rfl (fa_cons (fe_callK G__law_cell_at (L2N.takes_of rfl rfl rfl rfl) (hr.mono (by decide)) rfl rfl (fa_cons (fe_var 0 (pv 0)) (fa_cons (fe_var 1 (pv 1)) fa_nil))) (fa_cons fe_int (fa_cons fe_int fa_nil)))) (fa_cons fe_int fa_nil)))))
/-! _law_lengths -/
abbrev s__law_lengths : Stmt := top 41
abbrev N__law_lengths : List Str := ["_law_bag_here", "_law_rows", "_law_most", "_law_base", "_law_way", "_law_found", "_law_line", "_law_near", "_law_wide"]
theorem sc__law_lengths : FnScope N__law_lengths ["_law_bag_here", "_law_rows", "_law_most"] (defScope s__law_lengths) := ⟨rfl, rfl, rfl, by decide +kernel, rfl, by decide +kernel, by decide +kernel⟩
def b__law_lengths : SF :=
    sSeq (sPar2 3 4 (aCons (c2 (g2 fAdd) (cD (.int 1)) (cA d__law_take (aCons (cVar 0) (aCons (cVar 2) (aNil))))) (aCons (cA d__law_take (aCons (cVar 0) (aCons (cD (.int 4)) (aNil)))) (aNil))))
    (sSeq (sSet 5 (cA (gSeq .tuple) (aNil)))
    (sSeq (sFor (fun ρ st => ((aCons (c2 (g2 fAdd) (cD (.int 1)) (cA d__law_take (aCons (cVar 0) (aCons (cVar 1) (aNil))))) (aNil)) ρ st).bind gRange1) (gN 6) (sSeq (sSet 7 (cA (gA2 fMax2) (aCons (cD (.int 1)) (aCons (cA (gA2 fMin2) (aCons (cVar 2) (aCons (c2 (g2 fSub) (c2 (g2 fAdd) (cVar 3) (cA d__law_take (aCons (cVar 0) (aCons (cD (.int 3)) (aNil))))) (cD (.int 1))) (aNil)))) (aNil)))))
    (sSeq (sSet 8 (c2 (g2 fAdd) (cD (.int 1)) (cA d__law_take (aCons (cVar 0) (aCons (cVar 2) (aNil))))))
    (sSet 5 (c2 (g2 fAdd) (cVar 5) (cA (gSeq .tuple) (aCons (c2 (g2 fIx) (cA (gSeq .list) (aCons (cVar 8) (aCons (cVar 7) (aCons (cVar 8) (aCons (cVar 3) (aNil)))))) (cVar 4)) (aNil))))))))
    (sRet (cVar 5))))
def d__law_lengths : Den := defF 6 b__law_lengths
theorem ok__law_lengths {P : Program} {w : World} {K : PySem.W.Frag} {mg : Str → Option Value} {base : Heap} {f : Addr} {fd : FuncData} (F : Fun K "_law_lengths" "_law_lengths" s__law_lengths f fd) (T : Txt w K mg) (G__law_take : DefOk P w K mg base "_law_take" 1 ["_law_bag_here", "_law_many"] d__law_take) :
    FnOk P w K mg base (L2N.CX P w) 2 f fd ["_law_bag_here", "_law_rows", "_law_most"] (spD ⟨P, w, K⟩ mg 3 d__law_lengths) :=
  fd_of (j := 6) F sc__law_lengths rfl fun cdv A outer s0 H E hr =>
    (fss_cons (fs_par2 (i := 3) (j := 4) rfl sc__law_lengths.nd rfl rfl (by decide) rfl rfl (fa_cons (fe_add fe_int (fe_callK G__law_take (L2N.takes_of rfl rfl rfl rfl) (hr.mono (by decide)) rfl rfl (fa_cons (fe_var 0 (pv 0)) (fa_cons (fe_var 2 (pv 2)) fa_nil)))) (fa_cons (fe_callK G__law_take (L2N.takes_of rfl rfl rfl rfl) (hr.mono (by decide)) rfl rfl (fa_cons (fe_var 0 (pv 0)) (fa_cons fe_int fa_nil))) fa_nil)) rfl)
    (fss_cons (fs_set (i := 5) sc__law_lengths.nd rfl (Or.inl rfl) (fe_tup fa_nil))
    (fss_cons (fs_for (passes_of rfl) rfl (fi_range1 rfl T.z_range (fa_cons (fe_add fe_int (fe_callK G__law_take (L2N.takes_of rfl rfl rfl rfl) (hr.mono (by decide)) rfl rfl (fa_cons (fe_var 0 (pv 0)) (fa_cons (fe_var 1 (pv 1)) fa_nil)))) fa_nil)) (fg_name (i := 6) sc__law_lengths.nd rfl (Or.inl rfl)) (fss_cons (fs_set (i := 7) sc__law_lengths.nd rfl (Or.inl rfl) (fe_bltn o_max2 (call_max2 rfl) rfl T.z_max PyProof.Rows.boot_max (fa_cons fe_int (fa_cons (fe_bltn o_min2 (call_min2 rfl) rfl T.z_min PyProof.Rows.boot_min (fa_cons (fe_var 2 (pv 2)) (fa_cons (fe_sub (fe_add (fe_var 3 (pv 3)) (fe_callK G__law_take (L2N.takes_of rfl rfl rfl rfl) (hr.mono (by decide)) rfl rfl (fa_cons (fe_var 0 (pv 0)) (fa_cons fe_int fa_nil)))) fe_int) fa_nil))) fa_nil))))
    (fss_cons (fs_set (i := 8) sc__law_lengths.nd rfl (Or.inl rfl) (fe_add fe_int (fe_callK G__law_take (L2N.takes_of rfl rfl rfl rfl) (hr.mono (by decide)) rfl rfl (fa_cons (fe_var 0 (pv 0)) (fa_cons (fe_var 2 (pv 2)) fa_nil)))))
    (fss_one (fs_set (i := 5) sc__law_lengths.nd rfl (Or.inl rfl) (fe_add (fe_var 5 (pv 5)) (fe_tup (fa_cons (fe_ix (hu_of hr) (fe_lst (fa_cons (fe_var 8 (pv 8)) (fa_cons (fe_var 7 (pv 7)) (fa_cons (fe_var 8 (pv 8)) (fa_cons (fe_var 3 (pv 3)) fa_nil))))) (fe_var 4 (pv 4)) (fun _ _ => rfl)) fa_nil))))))))
    (fss_one (fs_ret (fe_var 5 (pv 5)))))))
/-! _law_start -/
abbrev s__law_start : Stmt := top 42
abbrev N__law_start : List Str := ["_law_bag_here", "_law_lengths_here", "_law_line"]
theorem sc__law_start : FnScope N__law_start ["_law_bag_here", "_law_lengths_here"] (defScope s__law_start) := ⟨rfl, rfl, rfl, by decide +kernel, rfl, by decide +kernel, by decide +kernel⟩
def b__law_start : SF :=
    sSeq (sSet 2 (cA d__law_take (aCons (cVar 0) (aCons (cA (gA1 fLen) (aCons (cVar 1) (aNil))) (aNil)))))
    (sRet (cA (gSeq .tuple) (aCons (cVar 2) (aCons (c2 (g2 fIx) (cA (gSeq .list) (aCons (cA d__law_take (aCons (cVar 0) (aCons (c2 (g2 fIx) (cVar 1) (cVar 2)) (aNil)))) (aCons (c2 (g2 fSub) (c2 (g2 fIx) (cVar 1) (cVar 2)) (cD (.int 1))) (aNil)))) (c2 (g2 fDiv) (cA d__law_take (aCons (cVar 0) (aCons (cD (.int 3)) (aNil)))) (cD (.int 2)))) (aNil)))))
def d__law_start : Den := defF 1 b__law_start
theorem ok__law_start {P : Program} {w : World} {K : PySem.W.Frag} {mg : Str → Option Value} {base : Heap} {f : Addr} {fd : FuncData} (F : Fun K "_law_start" "_law_start" s__law_start f fd) (T : Txt w K mg) (G__law_take : DefOk P w K mg base "_law_take" 1 ["_law_bag_here", "_law_many"] d__law_take) :
    FnOk P w K mg base (L2N.CX P w) 2 f fd ["_law_bag_here", "_law_lengths_here"] (spD ⟨P, w, K⟩ mg 2 d__law_start) :=
  fd_of (j := 1) F sc__law_start rfl fun cdv A outer s0 H E hr =>
    (fss_cons (fs_set (i := 2) sc__law_start.nd rfl (Or.inl rfl) (fe_callK G__law_take (L2N.takes_of rfl rfl rfl rfl) (hr.mono (by decide)) rfl rfl (fa_cons (fe_var 0 (pv 0)) (fa_cons (fe_bltn o_len call_lenX rfl T.z_len PySem.boot_len (fa_cons (fe_var 1 (pv 1)) fa_nil)) fa_nil))))
    (fss_one (fs_ret (fe_tup (fa_cons (fe_var 2 (pv 2)) (fa_cons (fe_ix (hu_of hr) (fe_lst (fa_cons (fe_callK G__law_take (L2N.takes_of rfl rfl rfl rfl) (hr.mono (by decide)) rfl rfl (fa_cons (fe_var 0 (pv 0)) (fa_cons (fe_ix (hu_of hr) (fe_var 1 (pv 1)) (fe_var 2 (pv 2)) (fun _ _ => rfl)) fa_nil))) (fa_cons (fe_sub (fe_ix (hu_of hr) (fe_var 1 (pv 1)) (fe_var 2 (pv 2)) (fun _ _ => rfl)) fe_int) fa_nil))) (fe_div (fe_callK G__law_take (L2N.takes_of rfl rfl rfl rfl) (hr.mono (by decide)) rfl rfl (fa_cons (fe_var 0 (pv 0)) (fa_cons fe_int fa_nil))) fe_int) (fun _ _ => rfl)) fa_nil))))))
/-! _law_run -/
abbrev s__law_run : Stmt := top 44
abbrev N__law_run : List Str := ["_law_lengths_here", "_law_setting", "_law_script", "_law_turn"]
theorem sc__law_run : FnScope N__law_run ["_law_lengths_here", "_law_setting", "_law_script"] (defScope s__law_run) := ⟨rfl, rfl, rfl, by decide +kernel, rfl, by decide +kernel, by decide +kernel⟩
def b__law_run : SF :=
    sSeq (sFor (iSeqF (cVar 2)) (gN 3) (sSet 1 (cA d__law_after (aCons (cVar 0) (aCons (cVar 1) (aCons (cVar 3) (aNil)))))))
    (sRet (cVar 1))
def d__law_run : Den := defF 1 b__law_run
theorem ok__law_run {P : Program} {w : World} {K : PySem.W.Frag} {mg : Str → Option Value} {base : Heap} {f : Addr} {fd : FuncData} (F : Fun K "_law_run" "_law_run" s__law_run f fd) (T : Txt w K mg) (G__law_after : DefOk P w K mg base "_law_after" 1 ["_law_lengths_here", "_law_setting", "_law_turn"] d__law_after) :
    FnOk P w K mg base (L2N.CX P w) 2 f fd ["_law_lengths_here", "_law_setting", "_law_script"] (spD ⟨P, w, K⟩ mg 3 d__law_run) :=
  fd_of (j := 1) F sc__law_run rfl fun cdv A outer s0 H E hr =>
    (fss_cons (fs_for (passes_of rfl) rfl (fi_seq (fe_var 2 (pv 2))) (fg_name (i := 3) sc__law_run.nd rfl (Or.inl rfl)) (fss_one (fs_set (i := 1) sc__law_run.nd rfl (Or.inl rfl) (fe_callK G__law_after (L2N.takes_of rfl rfl rfl rfl) (hr.mono (by decide)) rfl rfl (fa_cons (fe_var 0 (pv 0)) (fa_cons (fe_var 1 (pv 1)) (fa_cons (fe_var 3 (pv 3)) fa_nil)))))))
    (fss_one (fs_ret (fe_var 1 (pv 1)))))
/-! _law_showing -/
abbrev s__law_showing : Stmt := top 45
abbrev N__law_showing : List Str := ["_law_lengths_here", "_law_row", "_law_length", "_law_turn", "_law_other"]
theorem sc__law_showing : FnScope N__law_showing ["_law_lengths_here"] (defScope s__law_showing) := ⟨rfl, rfl, rfl, by decide +kernel, rfl, by decide +kernel, by decide +kernel⟩
def b__law_showing : SF :=
    sSeq (sFor (iEnumF (cVar 0)) (gT 2 (gsCons (gN 1) (gsCons (gN 2) gsNil))) (sFor (iSeqF (cA (gSeq .tuple) (aCons (cD (.str "R+")) (aCons (cD (.str "R-")) (aNil))))) (gN 3) (sSeq (sSet 4 (cA d__law_after (aCons (cVar 0) (aCons (cA (gSeq .tuple) (aCons (cVar 1) (aCons (c2 (g2 fSub) (cVar 2) (cD (.int 1))) (aNil)))) (aCons (cVar 3) (aNil))))))
    (sIf (Fx.tB (c2 (g2 (fCmpI pLt)) (c2 (g2 fIx) (cVar 4) (cD (.int 1))) (c2 (g2 fSub) (cVar 2) (cD (.int 1))))) (sRet (cA (gSeq .tuple) (aCons (cA (gSeq .tuple) (aCons (cVar 1) (aCons (c2 (g2 fSub) (cVar 2) (cD (.int 1))) (aNil)))) (aCons (cVar 4) (aNil))))) (sNx)))))
    (sRet (cD .none))
def d__law_showing : Den := defF 4 b__law_showing
theorem ok__law_showing {P : Program} {w : World} {K : PySem.W.Frag} {mg : Str → Option Value} {base : Heap} {f : Addr} {fd : FuncData} (F : Fun K "_law_showing" "_law_showing" s__law_showing f fd) (T : Txt w K mg) (G__law_after : DefOk P w K mg base "_law_after" 1 ["_law_lengths_here", "_law_setting", "_law_turn"] d__law_after) :
    FnOk P w K mg base (L2N.CX P w) 2 f fd ["_law_lengths_here"] (spD ⟨P, w, K⟩ mg 1 d__law_showing) :=
  fd_of (j := 4) F sc__law_showing rfl fun cdv A outer s0 H E hr =>
    (fss_cons (fs_for (passes_of rfl) rfl (fi_enum rfl T.z_enumerate (fe_var 0 (pv 0))) (fg_tup rfl (fgs_cons (fg_name (i := 1) sc__law_showing.nd rfl (Or.inl rfl)) (fgs_cons (fg_name (i := 2) sc__law_showing.nd rfl (Or.inl rfl)) fgs_nil))) (fss_one (fs_for (passes_of rfl) rfl (fi_seq (fe_tup (fa_cons fe_str (fa_cons fe_str fa_nil)))) (fg_name (i := 3) sc__law_showing.nd rfl (Or.inl rfl)) (fss_cons (fs_set (i := 4) sc__law_showing.nd rfl (Or.inl rfl) (fe_callK G__law_after (L2N.takes_of rfl rfl rfl rfl) (hr.mono (by decide)) rfl rfl (fa_cons (fe_var 0 (pv 0)) (fa_cons (fe_tup (fa_cons (fe_var 1 (pv 1)) (fa_cons (fe_sub (fe_var 2 (pv 2)) fe_int) fa_nil))) (fa_cons (fe_var 3 (pv 3)) fa_nil)))))
    (fss_one (fs_if (ft_cmp (o_cmpI (p := pLt)) op_lt (fe_ix (hu_of hr) (fe_var 4 (pv 4)) fe_int (fun _ _ => rfl)) (fe_sub (fe_var 2 (pv 2)) fe_int) (nomark _)) (fss_one (fs_ret (fe_tup (fa_cons (fe_tup (fa_cons (fe_var 1 (pv 1)) (fa_cons (fe_sub (fe_var 2 (pv 2)) fe_int) fa_nil))) (fa_cons (fe_var 4 (pv 4)) fa_nil))))) fss_nil))))))
    (fss_one (fs_ret fe_non)))
/-! need_lengths -/
abbrev s_need_lengths : Stmt := top 15
abbrev N_need_lengths : List Str := ["value"]
theorem sc_need_lengths : FnScope N_need_lengths ["value"] (defScope s_need_lengths) := ⟨rfl, rfl, rfl, by decide +kernel, rfl, by decide +kernel, by decide +kernel⟩
def b_need_lengths : SF :=
    sIf (tNotF (Fx.tB (cA d_is_lengths (aCons (cVar 0) (aNil))))) (sRaise "InvalidLengths") (sNx)
def d_need_lengths : Den := defF 0 b_need_lengths
theorem ok_need_lengths {P : Program} {w : World} {K : PySem.W.Frag} {mg : Str → Option Value} {base : Heap} {f : Addr} {fd : FuncData} (F : Fun K "need_lengths" "need_lengths" s_need_lengths f fd) (T : Txt w K mg) (G_is_lengths : DefOk P w K mg base "is_lengths" 2 ["value"] d_is_lengths) :
    FnOk P w K mg base (L2N.CX P w) 3 f fd ["value"] (spD ⟨P, w, K⟩ mg 1 d_need_lengths) :=
  fd_of (j := 0) F sc_need_lengths rfl fun cdv A outer s0 H E hr =>
    (fss_one (fs_if (ft_not (ft_val (fe_callK G_is_lengths (L2N.takes_of rfl rfl rfl rfl) (hr.mono (by decide)) rfl rfl (fa_cons (fe_var 0 (pv 0)) fa_nil)))) (fss_one (fs_raiseK T.e_InvalidLengths rfl (L2N.takes_of rfl rfl rfl rfl) rfl)) fss_nil))
/-! need_setting -/
abbrev s_need_setting : Stmt := top 16
abbrev N_need_setting : List Str := ["lengths", "value"]
theorem sc_need_setting : FnScope N_need_setting ["lengths", "value"] (defScope s_need_setting) := ⟨rfl, rfl, rfl, by decide +kernel, rfl, by decide +kernel, by decide +kernel⟩
def b_need_setting : SF :=
    sIf (tNotF (Fx.tB (cA d_fits (aCons (cVar 0) (aCons (cVar 1) (aNil)))))) (sRaise "InvalidSetting") (sNx)
def d_need_setting : Den := defF 0 b_need_setting
theorem ok_need_setting {P : Program} {w : World} {K : PySem.W.Frag} {mg : Str → Option Value} {base : Heap} {f : Addr} {fd : FuncData} (F : Fun K "need_setting" "need_setting" s_need_setting f fd) (T : Txt w K mg) (G_fits : DefOk P w K mg base "fits" 2 ["lengths", "value"] d_fits) :
    FnOk P w K mg base (L2N.CX P w) 3 f fd ["lengths", "value"] (spD ⟨P, w, K⟩ mg 2 d_need_setting) :=
  fd_of (j := 0) F sc_need_setting rfl fun cdv A outer s0 H E hr =>
    (fss_one (fs_if (ft_not (ft_val (fe_callK G_fits (L2N.takes_of rfl rfl rfl rfl) (hr.mono (by decide)) rfl rfl (fa_cons (fe_var 0 (pv 0)) (fa_cons (fe_var 1 (pv 1)) fa_nil))))) (fss_one (fs_raiseK T.e_InvalidSetting rfl (L2N.takes_of rfl rfl rfl rfl) rfl)) fss_nil))
/-! need_script -/
abbrev s_need_script : Stmt := top 20
abbrev N_need_script : List Str := ["value", "most"]
theorem sc_need_script : FnScope N_need_script ["value", "most"] (defScope s_need_script) := ⟨rfl, rfl, rfl, by decide +kernel, rfl, by decide +kernel, by decide +kernel⟩
def b_need_script : SF :=
    sIf (tNotF (Fx.tB (cA d_is_script (aCons (cVar 0) (aCons (cVar 1) (aNil)))))) (sRaise "InvalidScript") (sNx)
def d_need_script : Den := defF 0 b_need_script
theorem ok_need_script {P : Program} {w : World} {K : PySem.W.Frag} {mg : Str → Option Value} {base : Heap} {f : Addr} {fd : FuncData} (F : FunD K "need_script" "need_script" (defArgs s_need_script) (defBody s_need_script) (defScope s_need_script) [.int 200] [] f fd) (T : Txt w K mg) (G_is_script : DefOk P w K mg base "is_script" 2 ["value", "most"] d_is_script) :
    FnOk P w K mg base (L2N.CX P w) 3 f fd ["value", "most"] (spD ⟨P, w, K⟩ mg 2 d_need_script) :=
  fd_ofD (j := 0) F sc_need_script rfl fun cdv A outer s0 H E hr =>
    (fss_one (fs_if (ft_not (ft_val (fe_callK G_is_script (L2N.takes_of rfl rfl rfl rfl) (hr.mono (by decide)) rfl rfl (fa_cons (fe_var 0 (pv 0)) (fa_cons (fe_var 1 (pv 1)) fa_nil))))) (fss_one (fs_raiseK T.e_InvalidScript rfl (L2N.takes_of rfl rfl rfl rfl) rfl)) fss_nil))
/-! after_script -/
abbrev s_after_script : Stmt := top 23
abbrev N_after_script : List Str := ["lengths", "setting", "script", "turn"]
theorem sc_after_script : FnScope N_after_script ["lengths", "setting", "script"] (defScope s_after_script) := ⟨rfl, rfl, rfl, by decide +kernel, rfl, by decide +kernel, by decide +kernel⟩
def b_after_script : SF :=
    sSeq (sFor (iSeqF (cVar 2)) (gN 3) (sSet 1 (cA d_after_turn (aCons (cVar 0) (aCons (cVar 1) (aCons (cVar 3) (aNil)))))))
    (sRet (cVar 1))
def d_after_script : Den := defF 1 b_after_script
theorem ok_after_script {P : Program} {w : World} {K : PySem.W.Frag} {mg : Str → Option Value} {base : Heap} {f : Addr} {fd : FuncData} (F : Fun K "after_script" "after_script" s_after_script f fd) (T : Txt w K mg) (G_after_turn : DefOk P w K mg base "after_turn" 2 ["lengths", "setting", "turn"] d_after_turn) :
    FnOk P w K mg base (L2N.CX P w) 3 f fd ["lengths", "setting", "script"] (spD ⟨P, w, K⟩ mg 3 d_after_script) :=
  fd_of (j := 1) F sc_after_script rfl fun cdv A outer s0 H E hr =>
    (fss_cons (fs_for (passes_of rfl) rfl (fi_seq (fe_var 2 (pv 2))) (fg_name (i := 3) sc_after_script.nd rfl (Or.inl rfl)) (fss_one (fs_set (i := 1) sc_after_script.nd rfl (Or.inl rfl) (fe_callK G_after_turn (L2N.takes_of rfl rfl rfl rfl) (hr.mono (by decide)) rfl rfl (fa_cons (fe_var 0 (pv 0)) (fa_cons (fe_var 1 (pv 1)) (fa_cons (fe_var 3 (pv 3)) fa_nil)))))))
    (fss_one (fs_ret (fe_var 1 (pv 1)))))
/-! layers_from -/
abbrev s_layers_from : Stmt := top 28
abbrev N_layers_from : List Str := ["lengths", "start", "seen", "layers", "later", "setting", "ways", "turn", "other"]
theorem sc_layers_from : FnScope N_layers_from ["lengths", "start"] (defScope s_layers_from) := ⟨rfl, rfl, rfl, by decide +kernel, rfl, by decide +kernel, by decide +kernel⟩
def b_layers_from : SF :=
    sSeq (sPar2 2 3 (aCons (cDic1 true (cVar 1) (cD (.bool true))) (aCons (cA gLstH (aCons (cDic1 false (cVar 1) (cD (.int 1))) (aNil))) (aNil))))
    (sSeq (sWhile FUEL (Fx.tB (c2 (g2 (fDic0 true)) (c2 (g2 fIx) (cVar 3) (c1 (g1 fNeg) (cD (.int 1)))) (cD (.dict [])))) (sSeq (sSet 4 (cDicH))
    (sSeq (sFor (iItemsF (c2 (g2 fIx) (cVar 3) (c1 (g1 fNeg) (cD (.int 1))))) (gT 2 (gsCons (gN 5) (gsCons (gN 6) gsNil))) (sFor (iSeqF (cD (.tuple [(.str "C+"), (.str "C-"), (.str "R+"), (.str "R-")]))) (gN 7) (sSeq (sSet 8 (cA d_after_turn (aCons (cVar 0) (aCons (cVar 5) (aCons (cVar 7) (aNil))))))
    (sIf (Fx.tB (c2 (g2 (fIn' true)) (cVar 8) (cVar 2))) (sPut (cVar 4) (cVar 8) (c2 (g2 fAdd) (cGet (cVar 4) (aCons (cVar 8) (aCons (cD (.int 0)) (aNil)))) (cVar 6))) (sNx)))))
    (sSeq (sFor (iSeqF (cVar 4)) (gN 5) (sPut (cVar 2) (cVar 5) (cD (.bool true))))
    (sExpr (cApp (cVar 3) (cVar 4)))))))
    (sRet (cSl (cVar 3) pNone (pSome (c1 (g1 fNeg) (cD (.int 1)))))))
def d_layers_from : Den := defF 7 b_layers_from
theorem ok_layers_from {P : Program} {w : World} {K : PySem.W.Frag} {mg : Str → Option Value} {base : Heap} {f : Addr} {fd : FuncData} (F : Fun K "layers_from" "layers_from" s_layers_from f fd) (T : Txt w K mg) (G_after_turn : DefOk P w K mg base "after_turn" 2 ["lengths", "setting", "turn"] d_after_turn) :
    FnOk P w K mg base (L2N.CX P w) 3 f fd ["lengths", "start"] (spD ⟨P, w, K⟩ mg 2 d_layers_from) :=
  fd_of (j := 7) F sc_layers_from rfl fun cdv A outer s0 H E hr =>
    (fss_cons (fs_par2 (i := 2) (j := 3) rfl sc_layers_from.nd rfl rfl (by decide) rfl rfl (fa_cons (fe_dic1 (b := true) (hu_of hr) (fe_var 1 (pv 1)) fe_bl) (fa_cons (fe_lstH (fa_cons (fe_dic1 (b := false) (hu_of hr) (fe_var 1 (pv 1)) fe_int) fa_nil)) fa_nil)) rfl)
    (fss_cons (fs_while (passes_of rfl) (ft_cmp (o_dic0 (neg := true)) (op_ne0 (hu_of hr)) (fe_ix (hu_of hr) (fe_var 3 (pv 3)) (fe_neg fe_int) (fun _ _ => rfl)) fe_dic (nomark _)) (fss_cons (fs_set (i := 4) sc_layers_from.nd rfl (Or.inl rfl) fe_dicH)
    (fss_cons (fs_for (passes_of rfl) rfl (fi_items (fe_ix (hu_of hr) (fe_var 3 (pv 3)) (fe_neg fe_int) (fun _ _ => rfl))) (fg_tup rfl (fgs_cons (fg_name (i := 5) sc_layers_from.nd rfl (Or.inl rfl)) (fgs_cons (fg_name (i := 6) sc_layers_from.nd rfl (Or.inl rfl)) fgs_nil))) (fss_one (fs_for (passes_of rfl) rfl (fi_seq (fe_gdat rfl (T.c_TURNS).choose_spec.1 ((T.c_TURNS).choose_spec.2 _ _))) (fg_name (i := 7) sc_layers_from.nd rfl (Or.inl rfl)) (fss_cons (fs_set (i := 8) sc_layers_from.nd rfl (Or.inl rfl) (fe_callK G_after_turn (L2N.takes_of rfl rfl rfl rfl) (hr.mono (by decide)) rfl rfl (fa_cons (fe_var 0 (pv 0)) (fa_cons (fe_var 5 (pv 5)) (fa_cons (fe_var 7 (pv 7)) fa_nil)))))
    (fss_one (fs_if (ft_cmp (o_in' (neg := true)) (op_in2 (hu_of hr)) (fe_var 8 (pv 8)) (fe_var 2 (pv 2)) (by first | rfl | with_unfolding_all rfl)) (fss_one (fs_put (hu_of hr) (fe_var 4 (pv 4)) (fe_var 8 (pv 8)) (fe_add (fe_get (hu_of hr) (fe_var 4 (pv 4)) (fa_cons (fe_var 8 (pv 8)) (fa_cons fe_int fa_nil))) (fe_var 6 (pv 6))))) fss_nil))))))
    (fss_cons (fs_for (passes_of rfl) rfl (fi_seq (fe_var 4 (pv 4))) (fg_name (i := 5) sc_layers_from.nd rfl (Or.inl rfl)) (fss_one (fs_put (hu_of hr) (fe_var 2 (pv 2)) (fe_var 5 (pv 5)) fe_bl)))
    (fss_one (fs_expr (fe_app (fe_var 3 (pv 3)) (fe_var 4 (pv 4)))))))))
    (fss_one (fs_ret (fe_sl (fe_var 3 (pv 3)) fo_none (fo_some (fe_neg fe_int)))))))
/-! _law_bags -/
abbrev s__law_bags : Stmt := top 39
abbrev N__law_bags : List Str := ["_law_script", "_law_limit", "_law_k"]
theorem sc__law_bags : FnScope N__law_bags ["_law_script", "_law_limit"] (defScope s__law_bags) := ⟨rfl, rfl, rfl, by decide +kernel, rfl, by decide +kernel, by decide +kernel⟩
def b__law_bags : SF :=
    sRet (cLc (fun ρ st => ((aCons (cA (gA2 fMax2) (aCons (cD (.int 1)) (aCons (cA (gA2 fMin2) (aCons (cVar 1) (aCons (cA (gA1 fLen) (aCons (cVar 0) (aNil))) (aNil)))) (aNil)))) (aNil)) ρ st).bind gRange1) [2] (gN 2) tYesF (cA d__law_bag (aCons (cVar 0) (aCons (cVar 2) (aNil)))))
def d__law_bags : Den := defFH 1 b__law_bags
theorem ok__law_bags {P : Program} {w : World} {K : PySem.W.Frag} {mg : Str → Option Value} {base : Heap} {f : Addr} {fd : FuncData} (F : Fun K "_law_bags" "_law_bags" s__law_bags f fd) (T : Txt w K mg) (G__law_bag : DefOk P w K mg base "_law_bag" 2 ["_law_script", "_law_k"] d__law_bag) :
    FnOk P w K mg base (L2N.CX P w) 3 f fd ["_law_script", "_law_limit"] (spD ⟨P, w, K⟩ mg 2 d__law_bags) :=
  fd_ofH (j := 1) F sc__law_bags rfl fun cdv A outer s0 H E hr =>
    (fss_one (fs_ret (fe_lc (own := ([("_law_k", 2)] : List (Str × Nat))) rfl sc__law_bags.nd (fi_range1 rfl T.z_range (fa_cons (fe_bltn o_max2 (call_max2 rfl) rfl T.z_max PyProof.Rows.boot_max (fa_cons fe_int (fa_cons (fe_bltn o_min2 (call_min2 rfl) rfl T.z_min PyProof.Rows.boot_min (fa_cons (fe_var 1 (pv 1)) (fa_cons (fe_bltn o_len call_lenX rfl T.z_len PySem.boot_len (fa_cons (fe_var 0 (pv 0)) fa_nil)) fa_nil))) fa_nil))) fa_nil)) (blkOk_by (N := N__law_bags) (sc := defScope s__law_bags) (by decide +kernel)) (fun _ _ _ _ _ => (fg_name (i := 2) sc__law_bags.nd rfl (Or.inl rfl))) (fun _ _ _ _ _ => fts_nil) (fun _ _ _ _ _ => (fe_callK G__law_bag takes0N (hr.mono (by decide)) rfl rfl (fa_cons (fe_var 0 (pv 0)) (fa_cons (fe_var 2 (pv 2)) fa_nil)))) (by decide))))
/-! turned -/
abbrev s_turned : Stmt := top 24
abbrev N_turned : List Str := ["lengths", "start", "turns", "turn"]
theorem sc_turned : FnScope N_turned ["lengths", "start", "turns"] (defScope s_turned) := ⟨rfl, rfl, rfl, by decide +kernel, rfl, by decide +kernel, by decide +kernel⟩
def b_turned : SF :=
    sSeq (sExpr (cA d_need_lengths (aCons (cVar 0) (aNil))))
    (sSeq (sExpr (cA d_need_setting (aCons (cVar 0) (aCons (cVar 1) (aNil)))))
    (sSeq (sFor (iSeqF (cVar 2)) (gN 3) (sExpr (cA d_need_turn (aCons (cVar 3) (aNil)))))
    (sRet (cA d_after_script (aCons (cVar 0) (aCons (cVar 1) (aCons (cVar 2) (aNil))))))))
def d_turned : Den := defF 1 b_turned
theorem ok_turned {P : Program} {w : World} {K : PySem.W.Frag} {mg : Str → Option Value} {base : Heap} {f : Addr} {fd : FuncData} (F : Fun K "turned" "turned" s_turned f fd) (T : Txt w K mg) (G_need_lengths : DefOk P w K mg base "need_lengths" 3 ["value"] d_need_lengths) (G_need_setting : DefOk P w K mg base "need_setting" 3 ["lengths", "value"] d_need_setting) (G_after_script : DefOk P w K mg base "after_script" 3 ["lengths", "setting", "script"] d_after_script) (G_need_turn : DefOk P w K mg base "need_turn" 2 ["value"] d_need_turn) :
    FnR P w K mg base (L2N.CX P w) 4 f (spStar ⟨P, w, K⟩ mg 2 d_turned) :=
  fd_star (ps := ["lengths", "start"]) (j := 1) F sc_turned rfl (fun _ _ _ _ _ _ => StX.bind_star2 (B := fun us => bindArgs _ ⟨us, []⟩) (fun _ _ => rfl) (fun _ _ _ _ => rfl)) fun cdv A outer s0 H E hr =>
    (fss_cons (fs_expr (fe_callK G_need_lengths (L2N.takes_of rfl rfl rfl rfl) (hr.mono (by decide)) rfl rfl (fa_cons (fe_var 0 (pv 0)) fa_nil)))
    (fss_cons (fs_expr (fe_callK G_need_setting (L2N.takes_of rfl rfl rfl rfl) (hr.mono (by decide)) rfl rfl (fa_cons (fe_var 0 (pv 0)) (fa_cons (fe_var 1 (pv 1)) fa_nil))))
    (fss_cons (fs_for (passes_of rfl) rfl (fi_seq (fe_var 2 (pv 2))) (fg_name (i := 3) sc_turned.nd rfl (Or.inl rfl)) (fss_one (fs_expr (fe_callK G_need_turn (L2N.takes_of rfl rfl rfl rfl) (hr.mono (by decide)) rfl rfl (fa_cons (fe_var 3 (pv 3)) fa_nil)))))
    (fss_one (fs_ret (fe_callK G_after_script (L2N.takes_of rfl rfl rfl rfl) (hr.mono (by decide)) rfl rfl (fa_cons (fe_var 0 (pv 0)) (fa_cons (fe_var 1 (pv 1)) (fa_cons (fe_var 2 (pv 2)) fa_nil)))))))))
/-! walk -/
abbrev s_walk : Stmt := top 25
abbrev N_walk : List Str := ["lengths", "start", "script", "setting", "turn"]
theorem sc_walk : GScope N_walk ["lengths", "start", "script"] (defScope s_walk) := ⟨rfl, rfl, rfl, by decide +kernel, rfl, by decide +kernel, by decide +kernel⟩
def b_walk : GnF :=
    nSeq (nPlain (sExpr (cA d_need_lengths (aCons (cVar 0) (aNil)))))
    (nSeq (nPlain (sExpr (cA d_need_setting (aCons (cVar 0) (aCons (cVar 1) (aNil))))))
    (nSeq (nPlain (sExpr (cA (fun ws st => d_need_script (ws ++ [.d (.int 200)]) st) (aCons (cVar 2) (aNil)))))
    (nSeq (nPlain (sSet 3 (cVar 1)))
    (nSeq (nFor (iSeqF (cVar 2)) (gN 4) (nSeq (nPlain (sSet 3 (cA d_after_turn (aCons (cVar 0) (aCons (cVar 3) (aCons (cVar 4) (aNil)))))))
    (nSeq (nYield (cVar 3))
    (nNil))))
    (nNil)))))
def d_walk : DenG := gdefF 2 b_walk
theorem ok_walk {P : Program} {w : World} {K : PySem.W.Frag} {mg : Str → Option Value} {base : Heap} {f : Addr} {fd : FuncData} (F : Fun K "walk" "walk" s_walk f fd) (T : Txt w K mg) (G_need_lengths : DefOk P w K mg base "need_lengths" 3 ["value"] d_need_lengths) (G_need_setting : DefOk P w K mg base "need_setting" 3 ["lengths", "value"] d_need_setting) (GD_need_script : DefOkI P w K mg base "need_script" 3 ["value", "most"] d_need_script 200) (G_after_turn : DefOk P w K mg base "after_turn" 2 ["lengths", "setting", "turn"] d_after_turn) :
    GFn P w K mg base 4 f fd ["lengths", "start", "script"] (spGn ⟨P, w, K⟩ 3 d_walk) :=
  gfd_of (j := 2) F sc_walk rfl fun cdv A outer s0 H E pn hr =>
    (gl_cons (g1_plain (fs_expr (fe_callK G_need_lengths takes0N (hr.mono (by decide)) rfl rfl (fa_cons (fe_var 0 (pv 0)) fa_nil))))
    (gl_cons (g1_plain (fs_expr (fe_callK G_need_setting takes0N (hr.mono (by decide)) rfl rfl (fa_cons (fe_var 0 (pv 0)) (fa_cons (fe_var 1 (pv 1)) fa_nil)))))
    (gl_cons (g1_plain (fs_expr (fe_callKI GD_need_script takes0N (hr.mono (by decide)) rfl rfl (fa_cons (fe_var 2 (pv 2)) fa_nil))))
    (gl_cons (g1_plain (fs_set (i := 3) sc_walk.nd rfl (Or.inl rfl) (fe_var 1 (pv 1))))
    (gl_cons (g1_for owns_gcx rfl (fi_seq (fe_var 2 (pv 2))) (fg_name (i := 4) sc_walk.nd rfl (Or.inl rfl)) (gl_cons (g1_plain (fs_set (i := 3) sc_walk.nd rfl (Or.inl rfl) (fe_callK G_after_turn takes0N (hr.mono (by decide)) rfl rfl (fa_cons (fe_var 0 (pv 0)) (fa_cons (fe_var 3 (pv 3)) (fa_cons (fe_var 4 (pv 4)) fa_nil))))))
    (gl_cons (g1_yield (fe_var 3 (pv 3)))
    gl_nil)))
    gl_nil)))))
/-! need_pair -/
abbrev s_need_pair : Stmt := top 29
abbrev N_need_pair : List Str := ["lengths", "start", "goal"]
theorem sc_need_pair : FnScope N_need_pair ["lengths", "start", "goal"] (defScope s_need_pair) := ⟨rfl, rfl, rfl, by decide +kernel, rfl, by decide +kernel, by decide +kernel⟩
def b_need_pair : SF :=
    sSeq (sExpr (cA d_need_lengths (aCons (cVar 0) (aNil))))
    (sSeq (sExpr (cA d_need_setting (aCons (cVar 0) (aCons (cVar 1) (aNil)))))
    (sExpr (cA d_need_setting (aCons (cVar 0) (aCons (cVar 2) (aNil))))))
def d_need_pair : Den := defF 0 b_need_pair
theorem ok_need_pair {P : Program} {w : World} {K : PySem.W.Frag} {mg : Str → Option Value} {base : Heap} {f : Addr} {fd : FuncData} (F : Fun K "need_pair" "need_pair" s_need_pair f fd) (T : Txt w K mg) (G_need_lengths : DefOk P w K mg base "need_lengths" 3 ["value"] d_need_lengths) (G_need_setting : DefOk P w K mg base "need_setting" 3 ["lengths", "value"] d_need_setting) :
    FnOk P w K mg base (L2N.CX P w) 4 f fd ["lengths", "start", "goal"] (spD ⟨P, w, K⟩ mg 3 d_need_pair) :=
  fd_of (j := 0) F sc_need_pair rfl fun cdv A outer s0 H E hr =>
    (fss_cons (fs_expr (fe_callK G_need_lengths (L2N.takes_of rfl rfl rfl rfl) (hr.mono (by decide)) rfl rfl (fa_cons (fe_var 0 (pv 0)) fa_nil)))
    (fss_cons (fs_expr (fe_callK G_need_setting (L2N.takes_of rfl rfl rfl rfl) (hr.mono (by decide)) rfl rfl (fa_cons (fe_var 0 (pv 0)) (fa_cons (fe_var 1 (pv 1)) fa_nil))))
    (fss_one (fs_expr (fe_callK G_need_setting (L2N.takes_of rfl rfl rfl rfl) (hr.mono (by decide)) rfl rfl (fa_cons (fe_var 0 (pv 0)) (fa_cons (fe_var 2 (pv 2)) fa_nil)))))))
/-! levels -/
abbrev s_levels : Stmt := top 34
abbrev N_levels : List Str := ["lengths", "start", "layer"]
theorem sc_levels : FnScope N_levels ["lengths", "start"] (defScope s_levels) := ⟨rfl, rfl, rfl, by decide +kernel, rfl, by decide +kernel, by decide +kernel⟩
def b_levels : SF :=
    sSeq (sExpr (cA d_need_lengths (aCons (cVar 0) (aNil))))
    (sSeq (sExpr (cA d_need_setting (aCons (cVar 0) (aCons (cVar 1) (aNil)))))
    (sRet (cLc (iSeqF (cA d_layers_from (aCons (cVar 0) (aCons (cVar 1) (aNil))))) [2] (gN 2) tYesF (cA (gA1 fLen) (aCons (cVar 2) (aNil))))))
def d_levels : Den := defF 1 b_levels
theorem ok_levels {P : Program} {w : World} {K : PySem.W.Frag} {mg : Str → Option Value} {base : Heap} {f : Addr} {fd : FuncData} (F : Fun K "levels" "levels" s_levels f fd) (T : Txt w K mg) (G_need_lengths : DefOk P w K mg base "need_lengths" 3 ["value"] d_need_lengths) (G_need_setting : DefOk P w K mg base "need_setting" 3 ["lengths", "value"] d_need_setting) (G_layers_from : DefOk P w K mg base "layers_from" 3 ["lengths", "start"] d_layers_from) :
    FnOk P w K mg base (L2N.CX P w) 4 f fd ["lengths", "start"] (spD ⟨P, w, K⟩ mg 2 d_levels) :=
  fd_of (j := 1) F sc_levels rfl fun cdv A outer s0 H E hr =>
    (fss_cons (fs_expr (fe_callK G_need_lengths (L2N.takes_of rfl rfl rfl rfl) (hr.mono (by decide)) rfl rfl (fa_cons (fe_var 0 (pv 0)) fa_nil)))
    (fss_cons (fs_expr (fe_callK G_need_setting (L2N.takes_of rfl rfl rfl rfl) (hr.mono (by decide)) rfl rfl (fa_cons (fe_var 0 (pv 0)) (fa_cons (fe_var 1 (pv 1)) fa_nil))))
    (fss_one (fs_ret (fe_lc (own := ([("layer", 2)] : List (Str × Nat))) rfl sc_levels.nd (fi_seq (fe_callK G_layers_from (L2N.takes_of rfl rfl rfl rfl) (hr.mono (by decide)) rfl rfl (fa_cons (fe_var 0 (pv 0)) (fa_cons (fe_var 1 (pv 1)) fa_nil)))) (blkOk_by (N := N_levels) (sc := defScope s_levels) (by decide +kernel)) (fun _ _ _ _ _ => (fg_name (i := 2) sc_levels.nd rfl (Or.inl rfl))) (fun _ _ _ _ _ => fts_nil) (fun _ _ _ _ _ => (fe_bltn o_len call_lenX rfl T.z_len PySem.boot_len (fa_cons (fe_var 2 (pv 2)) fa_nil))) (by decide))))))
/-! fewest -/
abbrev s_fewest : Stmt := top 31
abbrev N_fewest : List Str := ["lengths", "start", "goal"]
theorem sc_fewest : FnScope N_fewest ["lengths", "start", "goal"] (defScope s_fewest) := ⟨rfl, rfl, rfl, by decide +kernel, rfl, by decide +kernel, by decide +kernel⟩
def b_fewest : SF :=
    sSeq (sExpr (cA d_need_pair (aCons (cVar 0) (aCons (cVar 1) (aCons (cVar 2) (aNil))))))
    (sRet (cA d_layer_of (aCons (cA d_layers_from (aCons (cVar 0) (aCons (cVar 1) (aNil)))) (aCons (cVar 2) (aNil)))))
def d_fewest : Den := defF 0 b_fewest
theorem ok_fewest {P : Program} {w : World} {K : PySem.W.Frag} {mg : Str → Option Value} {base : Heap} {f : Addr} {fd : FuncData} (F : Fun K "fewest" "fewest" s_fewest f fd) (T : Txt w K mg) (G_need_pair : DefOk P w K mg base "need_pair" 4 ["lengths", "start", "goal"] d_need_pair) (G_layer_of : DefOk P w K mg base "layer_of" 1 ["layers", "goal"] d_layer_of) (G_layers_from : DefOk P w K mg base "layers_from" 3 ["lengths", "start"] d_layers_from) :
    FnOk P w K mg base (L2N.CX P w) 5 f fd ["lengths", "start", "goal"] (spD ⟨P, w, K⟩ mg 3 d_fewest) :=
  fd_of (j := 0) F sc_fewest rfl fun cdv A outer s0 H E hr =>
    (fss_cons (fs_expr (fe_callK G_need_pair (L2N.takes_of rfl rfl rfl rfl) (hr.mono (by decide)) rfl rfl (fa_cons (fe_var 0 (pv 0)) (fa_cons (fe_var 1 (pv 1)) (fa_cons (fe_var 2 (pv 2)) fa_nil)))))
    (fss_one (fs_ret (fe_callK G_layer_of (L2N.takes_of rfl rfl rfl rfl) (hr.mono (by decide)) rfl rfl (fa_cons (fe_callK G_layers_from (L2N.takes_of rfl rfl rfl rfl) (hr.mono (by decide)) rfl rfl (fa_cons (fe_var 0 (pv 0)) (fa_cons (fe_var 1 (pv 1)) fa_nil))) (fa_cons (fe_var 2 (pv 2)) fa_nil))))))
/-! shortest -/
abbrev s_shortest : Stmt := top 32
abbrev N_shortest : List Str := ["lengths", "start", "goal", "layers", "script", "number", "found", "setting", "turn"]
theorem sc_shortest : FnScope N_shortest ["lengths", "start", "goal"] (defScope s_shortest) := ⟨rfl, rfl, rfl, by decide +kernel, rfl, by decide +kernel, by decide +kernel⟩
def b_shortest : SF :=
    sSeq (sExpr (cA d_need_pair (aCons (cVar 0) (aCons (cVar 1) (aCons (cVar 2) (aNil))))))
    (sSeq (sPar2 3 4 (aCons (cA d_layers_from (aCons (cVar 0) (aCons (cVar 1) (aNil)))) (aCons (cA (gSeq .tuple) (aNil)) (aNil))))
    (sSeq (sFor (fun ρ st => ((aCons (c2 (g2 fSub) (cA d_layer_of (aCons (cVar 3) (aCons (cVar 2) (aNil)))) (cD (.int 1))) (aCons (c1 (g1 fNeg) (cD (.int 1))) (aCons (c1 (g1 fNeg) (cD (.int 1))) (aNil)))) ρ st).bind gRange3) (gN 5) (sSeq (sSet 6 (cA (gSeq .list) (aNil)))
    (sSeq (sFor (iSeqF (c2 (g2 fIx) (cVar 3) (cVar 5))) (gN 7) (sSet 6 (c2 (g2 fAdd) (cVar 6) (cLc (iSeqF (cD (.tuple [(.str "C+"), (.str "C-"), (.str "R+"), (.str "R-")]))) [8] (gN 8) (Fx.tB (c2 (g2 fEq) (cA d_after_turn (aCons (cVar 0) (aCons (cVar 7) (aCons (cVar 8) (aNil))))) (cVar 2))) (cA (gSeq .tuple) (aCons (cVar 8) (aCons (cVar 7) (aNil))))))))
    (sAsg (gT 2 (gsCons (gN 4) (gsCons (gN 2) gsNil))) (cA (gSeq .tuple) (aCons (c2 (g2 fAdd) (cA (gSeq .tuple) (aCons (c2 (g2 fIx) (c2 (g2 fIx) (cVar 6) (cD (.int 0))) (cD (.int 0))) (aNil))) (cVar 4)) (aCons (c2 (g2 fIx) (c2 (g2 fIx) (cVar 6) (cD (.int 0))) (cD (.int 1))) (aNil))))))))
    (sRet (cVar 4))))
def d_shortest : Den := defF 6 b_shortest
theorem ok_shortest {P : Program} {w : World} {K : PySem.W.Frag} {mg : Str → Option Value} {base : Heap} {f : Addr} {fd : FuncData} (F : Fun K "shortest" "shortest" s_shortest f fd) (T : Txt w K mg) (G_need_pair : DefOk P w K mg base "need_pair" 4 ["lengths", "start", "goal"] d_need_pair) (G_layers_from : DefOk P w K mg base "layers_from" 3 ["lengths", "start"] d_layers_from) (G_layer_of : DefOk P w K mg base "layer_of" 1 ["layers", "goal"] d_layer_of) (G_after_turn : DefOk P w K mg base "after_turn" 2 ["lengths", "setting", "turn"] d_after_turn) :
    FnOk P w K mg base (L2N.CX P w) 5 f fd ["lengths", "start", "goal"] (spD ⟨P, w, K⟩ mg 3 d_shortest) :=
  fd_of (j := 6) F sc_shortest rfl fun cdv A outer s0 H E hr =>
    (fss_cons (fs_expr (fe_callK G_need_pair (L2N.takes_of rfl rfl rfl rfl) (hr.mono (by decide)) rfl rfl (fa_cons (fe_var 0 (pv 0)) (fa_cons (fe_var 1 (pv 1)) (fa_cons (fe_var 2 (pv 2)) fa_nil)))))
    (fss_cons (fs_par2 (i := 3) (j := 4) rfl sc_shortest.nd rfl rfl (by decide) rfl rfl (fa_cons (fe_callK G_layers_from (L2N.takes_of rfl rfl rfl rfl) (hr.mono (by decide)) rfl rfl (fa_cons (fe_var 0 (pv 0)) (fa_cons (fe_var 1 (pv 1)) fa_nil))) (fa_cons (fe_tup fa_nil) fa_nil)) rfl)
    (fss_cons (fs_for (passes_of rfl) rfl (fi_range3 rfl T.z_range (fa_cons (fe_sub (fe_callK G_layer_of (L2N.takes_of rfl rfl rfl rfl) (hr.mono (by decide)) rfl rfl (fa_cons (fe_var 3 (pv 3)) (fa_cons (fe_var 2 (pv 2)) fa_nil))) fe_int) (fa_cons (fe_neg fe_int) (fa_cons (fe_neg fe_int) fa_nil)))) (fg_name (i := 5) sc_shortest.nd rfl (Or.inl rfl)) (fss_cons (fs_set (i := 6) sc_shortest.nd rfl (Or.inl rfl) (fe_lst fa_nil))
    (fss_cons (fs_for (passes_of rfl) rfl (fi_seq (fe_ix (hu_of hr) (fe_var 3 (pv 3)) (fe_var 5 (pv 5)) (fun _ _ => rfl))) (fg_name (i := 7) sc_shortest.nd rfl (Or.inr rfl)) (fss_one (fs_set (i := 6) sc_shortest.nd rfl (Or.inl rfl) (fe_add (fe_var 6 (pv 6)) (fe_lc (own := ([("turn", 8)] : List (Str × Nat))) rfl sc_shortest.nd (fi_seq (fe_gdat rfl (T.c_TURNS).choose_spec.1 ((T.c_TURNS).choose_spec.2 _ _))) (blkOk_by (N := N_shortest) (sc := defScope s_shortest) (by decide +kernel)) (fun _ _ _ _ _ => (fg_name (i := 8) sc_shortest.nd rfl (Or.inl rfl))) (fun _ _ _ _ _ => (fts_one (ft_cmp o_eq (op_eqD hr.units) (fe_callK G_after_turn takes0N (hr.mono (by decide)) rfl rfl (fa_cons (fe_var 0 (pv 0)) (fa_cons (fe_var 7 (pv 7)) (fa_cons (fe_var 8 (pv 8)) fa_nil)))) (fe_var 2 (pv 2)) (nomark _)))) (fun _ _ _ _ _ => (fe_tup (fa_cons (fe_var 8 (pv 8)) (fa_cons (fe_var 7 (pv 7)) fa_nil)))) (by decide))))))
    (fss_one (fs_asg (fe_tup (fa_cons (fe_add (fe_tup (fa_cons (fe_ix (hu_of hr) (fe_ix (hu_of hr) (fe_var 6 (pv 6)) fe_int (fun _ _ => rfl)) fe_int (fun _ _ => rfl)) fa_nil)) (fe_var 4 (pv 4))) (fa_cons (fe_ix (hu_of hr) (fe_ix (hu_of hr) (fe_var 6 (pv 6)) fe_int (fun _ _ => rfl)) fe_int (fun _ _ => rfl)) fa_nil))) (fg_tup rfl (fgs_cons (fg_name (i := 4) sc_shortest.nd rfl (Or.inl rfl)) (fgs_cons (fg_name (i := 2) sc_shortest.nd rfl (Or.inr rfl)) fgs_nil))))))))
    (fss_one (fs_ret (fe_var 4 (pv 4)))))))
/-! count_shortest -/
abbrev s_count_shortest : Stmt := top 33
abbrev N_count_shortest : List Str := ["lengths", "start", "goal", "layers"]
theorem sc_count_shortest : FnScope N_count_shortest ["lengths", "start", "goal"] (defScope s_count_shortest) := ⟨rfl, rfl, rfl, by decide +kernel, rfl, by decide +kernel, by decide +kernel⟩
def b_count_shortest : SF :=
    sSeq (sExpr (cA d_need_pair (aCons (cVar 0) (aCons (cVar 1) (aCons (cVar 2) (aNil))))))
    (sSeq (sSet 3 (cA d_layers_from (aCons (cVar 0) (aCons (cVar 1) (aNil)))))
    (sRet (c2 (g2 fIx) (c2 (g2 fIx) (cVar 3) (cA d_layer_of (aCons (cVar 3) (aCons (cVar 2) (aNil))))) (cVar 2))))
def d_count_shortest : Den := defF 1 b_count_shortest
theorem ok_count_shortest {P : Program} {w : World} {K : PySem.W.Frag} {mg : Str → Option Value} {base : Heap} {f : Addr} {fd : FuncData} (F : Fun K "count_shortest" "count_shortest" s_count_shortest f fd) (T : Txt w K mg) (G_need_pair : DefOk P w K mg base "need_pair" 4 ["lengths", "start", "goal"] d_need_pair) (G_layers_from : DefOk P w K mg base "layers_from" 3 ["lengths", "start"] d_layers_from) (G_layer_of : DefOk P w K mg base "layer_of" 1 ["layers", "goal"] d_layer_of) :
    FnOk P w K mg base (L2N.CX P w) 5 f fd ["lengths", "start", "goal"] (spD ⟨P, w, K⟩ mg 3 d_count_shortest) :=
  fd_of (j := 1) F sc_count_shortest rfl fun cdv A outer s0 H E hr =>
    (fss_cons (fs_expr (fe_callK G_need_pair (L2N.takes_of rfl rfl rfl rfl) (hr.mono (by decide)) rfl rfl (fa_cons (fe_var 0 (pv 0)) (fa_cons (fe_var 1 (pv 1)) (fa_cons (fe_var 2 (pv 2)) fa_nil)))))
    (fss_cons (fs_set (i := 3) sc_count_shortest.nd rfl (Or.inl rfl) (fe_callK G_layers_from (L2N.takes_of rfl rfl rfl rfl) (hr.mono (by decide)) rfl rfl (fa_cons (fe_var 0 (pv 0)) (fa_cons (fe_var 1 (pv 1)) fa_nil))))
    (fss_one (fs_ret (fe_ix (hu_of hr) (fe_ix (hu_of hr) (fe_var 3 (pv 3)) (fe_callK G_layer_of (L2N.takes_of rfl rfl rfl rfl) (hr.mono (by decide)) rfl rfl (fa_cons (fe_var 3 (pv 3)) (fa_cons (fe_var 2 (pv 2)) fa_nil))) (fun _ _ => rfl)) (fe_var 2 (pv 2)) (fun _ _ => rfl))))))
/-! _law_way_right -/
abbrev s__law_way_right : Stmt := top 46
abbrev N__law_way_right : List Str := ["_law_lengths_here", "_law_one", "_law_two", "_law_there", "_law_way", "_law_size", "_law_middle", "_law_far"]
theorem sc__law_way_right : FnScope N__law_way_right ["_law_lengths_here", "_law_one", "_law_two"] (defScope s__law_way_right) := ⟨rfl, rfl, rfl, by decide +kernel, rfl, by decide +kernel, by decide +kernel⟩
def b__law_way_right : SF :=
    sSeq (sSet 3 (cA d_fewest (aCons (cVar 0) (aCons (cVar 1) (aCons (cVar 2) (aNil))))))
    (sSeq (sSet 4 (cA d_shortest (aCons (cVar 0) (aCons (cVar 1) (aCons (cVar 2) (aNil))))))
    (sSeq (sIf (tOrF (Fx.tB (c2 (g2 fNe) (cA (starDen 2 d_turned) (aCons (cVar 0) (aCons (cVar 1) (aNil)))) (cVar 1))) (Fx.tB (c2 (g2 fNe) (cSl (cListG d_walk (aCons (cVar 0) (aCons (cVar 1) (aCons (cVar 4) (aNil))))) (pSome (c1 (g1 fNeg) (cD (.int 1)))) pNone) (c2 gMulH (cA gLstH (aCons (cVar 2) (aNil))) (cA (gA1 fInt) (aCons (c2 (g2 fNe) (cVar 4) (cA (gSeq .tuple) (aNil))) (aNil))))))) (sRet (cD (.bool false))) (sNx))
    (sSeq (sFor (fun ρ st => ((aCons (c2 (g2 fAdd) (cA (gA1 fLen) (aCons (cVar 4) (aNil))) (cD (.int 1))) (aNil)) ρ st).bind gRange1) (gN 5) (sSeq (sSet 6 (cA d__law_run (aCons (cVar 0) (aCons (cVar 1) (aCons (cSl (cVar 4) pNone (pSome (cVar 5))) (aNil))))))
    (sIf (Fx.tB (c2 (g2 fNe) (cA d_fewest (aCons (cVar 0) (aCons (cVar 1) (aCons (cVar 6) (aNil))))) (cVar 5))) (sRet (cD (.bool false))) (sNx))))
    (sSeq (sSet 7 (c2 (g2 fSub) (cA (gA1 fLen) (aCons (cA d_levels (aCons (cVar 0) (aCons (cVar 1) (aNil)))) (aNil))) (cD (.int 1))))
    (sSeq (sIf (tOrF (Fx.tB (c2 (g2 (fCmpI pGt)) (cVar 3) (cVar 7))) (Fx.tB (c2 (g2 fNe) (cA (gA1 fSum) (aCons (cA d_levels (aCons (cVar 0) (aCons (cVar 1) (aNil)))) (aNil))) (cA (gA1 fSumA) (aCons (cVar 0) (aNil)))))) (sRet (cD (.bool false))) (sNx))
    (sSeq (sIf (Fx.tB (c2 (g2 (fCmpI pLt)) (cA d_count_shortest (aCons (cVar 0) (aCons (cVar 1) (aCons (cVar 2) (aNil))))) (cD (.int 1)))) (sRet (cD (.bool false))) (sNx))
    (sRet (cD (.bool true)))))))))
def d__law_way_right : Den := defF 5 b__law_way_right
theorem ok__law_way_right {P : Program} {w : World} {K : PySem.W.Frag} {mg : Str → Option Value} {base : Heap} {f : Addr} {fd : FuncData} (F : Fun K "_law_way_right" "_law_way_right" s__law_way_right f fd) (T : Txt w K mg) (G_fewest : DefOk P w K mg base "fewest" 5 ["lengths", "start", "goal"] d_fewest) (G_shortest : DefOk P w K mg base "shortest" 5 ["lengths", "start", "goal"] d_shortest) (G__law_run : DefOk P w K mg base "_law_run" 2 ["_law_lengths_here", "_law_setting", "_law_script"] d__law_run) (G_count_shortest : DefOk P w K mg base "count_shortest" 5 ["lengths", "start", "goal"] d_count_shortest) (G_turned : DefOkV P w K mg base "turned" 4 2 d_turned) (G_levels : DefOk P w K mg base "levels" 4 ["lengths", "start"] d_levels) (G_walk : DefOkG P w K mg base "walk" 4 ["lengths", "start", "script"] d_walk) :
    FnOk P w K mg base (L2N.CX P w) 8 f fd ["_law_lengths_here", "_law_one", "_law_two"] (spD ⟨P, w, K⟩ mg 3 d__law_way_right) :=
  fd_of (j := 5) F sc__law_way_right rfl fun cdv A outer s0 H E hr =>
    (fss_cons (fs_set (i := 3) sc__law_way_right.nd rfl (Or.inl rfl) (fe_callK G_fewest (L2N.takes_of rfl rfl rfl rfl) (hr.mono (by decide)) rfl rfl (fa_cons (fe_var 0 (pv 0)) (fa_cons (fe_var 1 (pv 1)) (fa_cons (fe_var 2 (pv 2)) fa_nil)))))
    (fss_cons (fs_set (i := 4) sc__law_way_right.nd rfl (Or.inl rfl) (fe_callK G_shortest (L2N.takes_of rfl rfl rfl rfl) (hr.mono (by decide)) rfl rfl (fa_cons (fe_var 0 (pv 0)) (fa_cons (fe_var 1 (pv 1)) (fa_cons (fe_var 2 (pv 2)) fa_nil)))))
    (fss_cons (fs_if (FW.ft (fw_or (ft_cmp o_ne (op_neD hr.units) (fe_callV G_turned (L2N.takes_of rfl rfl rfl rfl) (hr.mono (by decide)) rfl (by decide) (fa_cons (fe_var 0 (pv 0)) (fa_cons (fe_var 1 (pv 1)) fa_nil))) (fe_var 1 (pv 1)) (nomark _)) (fw_or1 (ft_cmp o_ne (op_neD hr.units) (fe_sl (fe_listG G_walk (hr.mono (by decide)) rfl rfl T.z_list rfl (fa_cons (fe_var 0 (pv 0)) (fa_cons (fe_var 1 (pv 1)) (fa_cons (fe_var 4 (pv 4)) fa_nil)))) (fo_some (fe_neg fe_int)) fo_none) (fe_mulH (fe_lstH (fa_cons (fe_var 2 (pv 2)) fa_nil)) (fe_type o_int call_int1 rfl T.z_int PyProof.Rows.boot_int (fa_cons (fe_cmp o_ne (op_neD hr.units) (fe_var 4 (pv 4)) (fe_tup fa_nil) (nomark _)) fa_nil))) (nomark _))))) (fss_one (fs_ret fe_bl)) fss_nil)
    (fss_cons (fs_for (passes_of rfl) rfl (fi_range1 rfl T.z_range (fa_cons (fe_add (fe_bltn o_len call_lenX rfl T.z_len PySem.boot_len (fa_cons (fe_var 4 (pv 4)) fa_nil)) fe_int) fa_nil)) (fg_name (i := 5) sc__law_way_right.nd rfl (Or.inl rfl)) (fss_cons (fs_set (i := 6) sc__law_way_right.nd rfl (Or.inl rfl) (fe_callK G__law_run (L2N.takes_of rfl rfl rfl rfl) (hr.mono (by decide)) rfl rfl (fa_cons (fe_var 0 (pv 0)) (fa_cons (fe_var 1 (pv 1)) (fa_cons (fe_sl (fe_var 4 (pv 4)) fo_none (fo_some (fe_var 5 (pv 5)))) fa_nil)))))
    (fss_one (fs_if (ft_cmp o_ne (op_neD hr.units) (fe_callK G_fewest (L2N.takes_of rfl rfl rfl rfl) (hr.mono (by decide)) rfl rfl (fa_cons (fe_var 0 (pv 0)) (fa_cons (fe_var 1 (pv 1)) (fa_cons (fe_var 6 (pv 6)) fa_nil)))) (fe_var 5 (pv 5)) (nomark _)) (fss_one (fs_ret fe_bl)) fss_nil))))
    (fss_cons (fs_set (i := 7) sc__law_way_right.nd rfl (Or.inl rfl) (fe_sub (fe_bltn o_len call_lenX rfl T.z_len PySem.boot_len (fa_cons (fe_callK G_levels (L2N.takes_of rfl rfl rfl rfl) (hr.mono (by decide)) rfl rfl (fa_cons (fe_var 0 (pv 0)) (fa_cons (fe_var 1 (pv 1)) fa_nil))) fa_nil)) fe_int))
    (fss_cons (fs_if (FW.ft (fw_or (ft_cmp (o_cmpI (p := pGt)) op_gt (fe_var 3 (pv 3)) (fe_var 7 (pv 7)) (nomark _)) (fw_or1 (ft_cmp o_ne (op_neD hr.units) (fe_bltn o_sum (cr_sum rfl) rfl T.z_sum PyProof.Rows.boot_sum (fa_cons (fe_callK G_levels (L2N.takes_of rfl rfl rfl rfl) (hr.mono (by decide)) rfl rfl (fa_cons (fe_var 0 (pv 0)) (fa_cons (fe_var 1 (pv 1)) fa_nil))) fa_nil)) (fe_bltn o_sumA (Fx.CallR.or (cr_sum rfl) (cr_sumT rfl)) rfl T.z_sum PyProof.Rows.boot_sum (fa_cons (fe_var 0 (pv 0)) fa_nil)) (nomark _))))) (fss_one (fs_ret fe_bl)) fss_nil)
    (fss_cons (fs_if (ft_cmp (o_cmpI (p := pLt)) op_lt (fe_callK G_count_shortest (L2N.takes_of rfl rfl rfl rfl) (hr.mono (by decide)) rfl rfl (fa_cons (fe_var 0 (pv 0)) (fa_cons (fe_var 1 (pv 1)) (fa_cons (fe_var 2 (pv 2)) fa_nil)))) fe_int (nomark _)) (fss_one (fs_ret fe_bl)) fss_nil)
    (fss_one (fs_ret fe_bl)))))))))
/-! law -/
abbrev s_law : Stmt := top 47
abbrev N_law : List Str := ["_law_script", "_law_bag_here", "_law_lengths_here", "_law_one", "_law_two", "_law_three", "_law_there", "_law_back", "_law_showing_here", "_law_far", "_law_rows"]
theorem sc_law : FnScope N_law ["_law_script"] (defScope s_law) := ⟨rfl, rfl, rfl, by decide +kernel, rfl, by decide +kernel, by decide +kernel⟩
def b_law : SF :=
    sSeq (sFor (iSeqF (cA d__law_bags (aCons (cVar 0) (aCons (cD (.int 4)) (aNil))))) (gN 1) (sSeq (sSet 2 (c2 (g2 fIx) (cA (gSeq .list) (aCons (cA d__law_lengths (aCons (cVar 1) (aCons (cD (.int 12)) (aCons (cD (.int 31)) (aNil))))) (aCons (cA d__law_lengths (aCons (cVar 1) (aCons (cD (.int 12)) (aCons (cD (.int 12)) (aNil))))) (aCons ((fun _ st => d_month_lengths [.d (.bool false)] st)) (aNil))))) (cA d__law_take (aCons (cVar 1) (aCons (cD (.int 3)) (aNil))))))
    (sSeq (sPar3 3 4 5 (aCons (cA d__law_start (aCons (cVar 1) (aCons (cVar 2) (aNil)))) (aCons (cA d__law_start (aCons (cVar 1) (aCons (cVar 2) (aNil)))) (aCons (cA d__law_start (aCons (cVar 1) (aCons (cVar 2) (aNil)))) (aNil)))))
    (sSeq (sPar2 6 7 (aCons (cA d_fewest (aCons (cVar 2) (aCons (cVar 3) (aCons (cVar 4) (aNil))))) (aCons (cA d_fewest (aCons (cVar 2) (aCons (cVar 4) (aCons (cVar 3) (aNil))))) (aNil))))
    (sSeq (sIf (Fx.tB (c2 (g2 (fCmpI pGt)) (cA d_fewest (aCons (cVar 2) (aCons (cVar 3) (aCons (cVar 5) (aNil))))) (c2 (g2 fAdd) (cVar 6) (cA d_fewest (aCons (cVar 2) (aCons (cVar 4) (aCons (cVar 5) (aNil)))))))) (sRet (cD (.bool false))) (sNx))
    (sSeq (sIf (Fx.tB (c2 (g2 fNe) (c2 (g2 fEq) (cVar 6) (cD (.int 0))) (c2 (g2 fEq) (cVar 3) (cVar 4)))) (sRet (cD (.bool false))) (sNx))
    (sSeq (sSet 8 (cA d__law_showing (aCons (cVar 2) (aNil))))
    (sSeq (sIf (Fx.tB (c2 (g2 fNe) (c2 gIsN (cVar 8) (cD .none)) (c2 (g2 fEq) (c1 (g1 fLenSet) (cVar 2)) (cD (.int 1))))) (sRet (cD (.bool false))) (sNx))
    (sSeq (sIf (tAndF (Fx.tB (c2 gIsN (cVar 8) (cD .none))) (Fx.tB (c2 (g2 fNe) (cVar 6) (cVar 7)))) (sRet (cD (.bool false))) (sNx))
    (sSeq (sIf (Fx.tB (c2 gNotN (cVar 8) (cD .none))) (sSeq (sIf (Fx.tB (c2 (g2 fNe) (cA d_fewest (aCons (cVar 2) (aCons (c2 (g2 fIx) (cVar 8) (cD (.int 0))) (aCons (c2 (g2 fIx) (cVar 8) (cD (.int 1))) (aNil))))) (cD (.int 1)))) (sRet (cD (.bool false))) (sNx))
    (sIf (Fx.tB (c2 (g2 (fCmpI pLt)) (cA d_fewest (aCons (cVar 2) (aCons (c2 (g2 fIx) (cVar 8) (cD (.int 1))) (aCons (c2 (g2 fIx) (cVar 8) (cD (.int 0))) (aNil))))) (cD (.int 2)))) (sRet (cD (.bool false))) (sNx))) (sNx))
    (sSeq (sIf (tNotF (Fx.tB (cA d__law_way_right (aCons (cVar 2) (aCons (cVar 3) (aCons (cVar 4) (aNil))))))) (sRet (cD (.bool false))) (sNx))
    (sSeq (sSet 9 (c2 (g2 fSub) (cA (gA1 fLen) (aCons (cA d_levels (aCons (cVar 2) (aCons (cVar 3) (aNil)))) (aNil))) (cD (.int 1))))
    (sSeq (sSet 10 (cA (gA1 fAbs) (aCons (c2 (g2 fSub) (c2 (g2 fIx) (cVar 3) (cD (.int 0))) (c2 (g2 fIx) (cVar 4) (cD (.int 0)))) (aNil))))
    (sSeq (sIf (Fx.tB (c2 (g2 (fCmpI pLt)) (cVar 6) (cA (gA2 fMin2) (aCons (cVar 10) (aCons (c2 (g2 fSub) (cA (gA1 fLen) (aCons (cVar 2) (aNil))) (cVar 10)) (aNil)))))) (sRet (cD (.bool false))) (sNx))
    (sIf (Fx.tB (c2 (g2 (fCmpI pGt)) (cVar 9) (c2 (g2 fAdd) (c2 (g2 fAdd) (c2 (g2 fDiv) (cA (gA1 fLen) (aCons (cVar 2) (aNil))) (cD (.int 2))) (c2 (g2 fDiv) (cA (gA1 fMaxA) (aCons (cVar 2) (aNil))) (cD (.int 2)))) (cA (gA1 fMaxA) (aCons (cVar 2) (aNil)))))) (sRet (cD (.bool false))) (sNx))))))))))))))))
    (sRet (cAnd (c2 (g2 fEq) (cA d_fewest (aCons (cA (gSeq .tuple) (aCons (cD (.int 31)) (aCons (cD (.int 16)) (aNil)))) (aCons (cA (gSeq .tuple) (aCons (cD (.int 0)) (aCons (cD (.int 30)) (aNil)))) (aCons (cA (gSeq .tuple) (aCons (cD (.int 0)) (aCons (cD (.int 15)) (aNil)))) (aNil))))) (cD (.int 2))) (c2 (g2 fEq) (cA d_fewest (aCons (cA (gSeq .tuple) (aCons (cD (.int 31)) (aCons (cD (.int 16)) (aNil)))) (aCons (cA (gSeq .tuple) (aCons (cD (.int 0)) (aCons (cD (.int 15)) (aNil)))) (aCons (cA (gSeq .tuple) (aCons (cD (.int 0)) (aCons (cD (.int 30)) (aNil)))) (aNil))))) (cD (.int 4)))))
def d_law : Den := defF 10 b_law
theorem ok_law {P : Program} {w : World} {K : PySem.W.Frag} {mg : Str → Option Value} {base : Heap} {f : Addr} {fd : FuncData} (F : Fun K "law" "law" s_law f fd) (T : Txt w K mg) (G__law_bags : DefOk P w K mg base "_law_bags" 3 ["_law_script", "_law_limit"] d__law_bags) (G__law_showing : DefOk P w K mg base "_law_showing" 2 ["_law_lengths_here"] d__law_showing) (G__law_take : DefOk P w K mg base "_law_take" 1 ["_law_bag_here", "_law_many"] d__law_take) (G__law_start : DefOk P w K mg base "_law_start" 2 ["_law_bag_here", "_law_lengths_here"] d__law_start) (G_fewest : DefOk P w K mg base "fewest" 5 ["lengths", "start", "goal"] d_fewest) (G__law_way_right : DefOk P w K mg base "_law_way_right" 8 ["_law_lengths_here", "_law_one", "_law_two"] d__law_way_right) (G__law_lengths : DefOk P w K mg base "_law_lengths" 2 ["_law_bag_here", "_law_rows", "_law_most"] d__law_lengths) (G_month_lengths : DefOkB P w K mg base "month_lengths" 1 "leap" d_month_lengths false) (G_levels : DefOk P w K mg base "levels" 4 ["lengths", "start"] d_levels) :
    FnOk P w K mg base (L2N.CX P w) 9 f fd ["_law_script"] (spD ⟨P, w, K⟩ mg 1 d_law) :=
  fd_of (j := 10) F sc_law rfl fun cdv A outer s0 H E hr =>
    (fss_cons (fs_for (passes_of rfl) rfl (fi_seq (fe_callK G__law_bags (L2N.takes_of rfl rfl rfl rfl) (hr.mono (by decide)) rfl rfl (fa_cons (fe_var 0 (pv 0)) (fa_cons fe_int fa_nil)))) (fg_name (i := 1) sc_law.nd rfl (Or.inl rfl)) (fss_cons (fs_set (i := 2) sc_law.nd rfl (Or.inl rfl) (fe_ix (hu_of hr) (fe_lst (fa_cons (fe_callK G__law_lengths (L2N.takes_of rfl rfl rfl rfl) (hr.mono (by decide)) rfl rfl (fa_cons (fe_var 1 (pv 1)) (fa_cons fe_int (fa_cons fe_int fa_nil)))) (fa_cons (fe_callK G__law_lengths (L2N.takes_of rfl rfl rfl rfl) (hr.mono (by decide)) rfl rfl (fa_cons (fe_var 1 (pv 1)) (fa_cons fe_int (fa_cons fe_int fa_nil)))) (fa_cons (fe_callB0 G_month_lengths (L2N.takes_of rfl rfl rfl rfl) (hr.mono (by decide)) rfl) fa_nil)))) (fe_callK G__law_take (L2N.takes_of rfl rfl rfl rfl) (hr.mono (by decide)) rfl rfl (fa_cons (fe_var 1 (pv 1)) (fa_cons fe_int fa_nil))) (fun _ _ => rfl)))
    (fss_cons (fs_par3 (i := 3) (j := 4) (l := 5) rfl sc_law.nd rfl rfl rfl (by decide) (by decide) (by decide) rfl rfl rfl (fa_cons (fe_callK G__law_start (L2N.takes_of rfl rfl rfl rfl) (hr.mono (by decide)) rfl rfl (fa_cons (fe_var 1 (pv 1)) (fa_cons (fe_var 2 (pv 2)) fa_nil))) (fa_cons (fe_callK G__law_start (L2N.takes_of rfl rfl rfl rfl) (hr.mono (by decide)) rfl rfl (fa_cons (fe_var 1 (pv 1)) (fa_cons (fe_var 2 (pv 2)) fa_nil))) (fa_cons (fe_callK G__law_start (L2N.takes_of rfl rfl rfl rfl) (hr.mono (by decide)) rfl rfl (fa_cons (fe_var 1 (pv 1)) (fa_cons (fe_var 2 (pv 2)) fa_nil))) fa_nil))) rfl)
    (fss_cons (fs_par2 (i := 6) (j := 7) rfl sc_law.nd rfl rfl (by decide) rfl rfl (fa_cons (fe_callK G_fewest (L2N.takes_of rfl rfl rfl rfl) (hr.mono (by decide)) rfl rfl (fa_cons (fe_var 2 (pv 2)) (fa_cons (fe_var 3 (pv 3)) (fa_cons (fe_var 4 (pv 4)) fa_nil)))) (fa_cons (fe_callK G_fewest (L2N.takes_of rfl rfl rfl rfl) (hr.mono (by decide)) rfl rfl (fa_cons (fe_var 2 (pv 2)) (fa_cons (fe_var 4 (pv 4)) (fa_cons (fe_var 3 (pv 3)) fa_nil)))) fa_nil)) rfl)
    (fss_cons (fs_if (ft_cmp (o_cmpI (p := pGt)) op_gt (fe_callK G_fewest (L2N.takes_of rfl rfl rfl rfl) (hr.mono (by decide)) rfl rfl (fa_cons (fe_var 2 (pv 2)) (fa_cons (fe_var 3 (pv 3)) (fa_cons (fe_var 5 (pv 5)) fa_nil)))) (fe_add (fe_var 6 (pv 6)) (fe_callK G_fewest (L2N.takes_of rfl rfl rfl rfl) (hr.mono (by decide)) rfl rfl (fa_cons (fe_var 2 (pv 2)) (fa_cons (fe_var 4 (pv 4)) (fa_cons (fe_var 5 (pv 5)) fa_nil))))) (nomark _)) (fss_one (fs_ret fe_bl)) fss_nil)
    (fss_cons (fs_if (ft_cmp o_ne (op_neD hr.units) (fe_cmp o_eq (op_eqD hr.units) (fe_var 6 (pv 6)) fe_int (nomark _)) (fe_cmp o_eq (op_eqD hr.units) (fe_var 3 (pv 3)) (fe_var 4 (pv 4)) (nomark _)) (nomark _)) (fss_one (fs_ret fe_bl)) fss_nil)
    (fss_cons (fs_set (i := 8) sc_law.nd rfl (Or.inl rfl) (fe_callK G__law_showing (L2N.takes_of rfl rfl rfl rfl) (hr.mono (by decide)) rfl rfl (fa_cons (fe_var 2 (pv 2)) fa_nil)))
    (fss_cons (fs_if (ft_cmp o_ne (op_neD hr.units) (fe_cmp o_isN op_isN (fe_var 8 (pv 8)) fe_non (nomark _)) (fe_cmp o_eq (op_eqD hr.units) (fe_lenSet rfl (hu_of hr) rfl T.z_len rfl T.z_set (fe_var 2 (pv 2))) fe_int (nomark _)) (nomark _)) (fss_one (fs_ret fe_bl)) fss_nil)
    (fss_cons (fs_if (FW.ft (fw_and (ft_cmp o_isN op_isN (fe_var 8 (pv 8)) fe_non (nomark _)) (fw_and1 (ft_cmp o_ne (op_neD hr.units) (fe_var 6 (pv 6)) (fe_var 7 (pv 7)) (nomark _))))) (fss_one (fs_ret fe_bl)) fss_nil)
    (fss_cons (fs_if (ft_cmp o_notN op_notN (fe_var 8 (pv 8)) fe_non (nomark _)) (fss_cons (fs_if (ft_cmp o_ne (op_neD hr.units) (fe_callK G_fewest (L2N.takes_of rfl rfl rfl rfl) (hr.mono (by decide)) rfl rfl (fa_cons (fe_var 2 (pv 2)) (fa_cons (fe_ix (hu_of hr) (fe_var 8 (pv 8)) fe_int (fun _ _ => rfl)) (fa_cons (fe_ix (hu_of hr) (fe_var 8 (pv 8)) fe_int (fun _ _ => rfl)) fa_nil)))) fe_int (nomark _)) (fss_one (fs_ret fe_bl)) fss_nil)
    (fss_one (fs_if (ft_cmp (o_cmpI (p := pLt)) op_lt (fe_callK G_fewest (L2N.takes_of rfl rfl rfl rfl) (hr.mono (by decide)) rfl rfl (fa_cons (fe_var 2 (pv 2)) (fa_cons (fe_ix (hu_of hr) (fe_var 8 (pv 8)) fe_int (fun _ _ => rfl)) (fa_cons (fe_ix (hu_of hr) (fe_var 8 (pv 8)) fe_int (fun _ _ => rfl)) fa_nil)))) fe_int (nomark _)) (fss_one (fs_ret fe_bl)) fss_nil))) fss_nil)
    (fss_cons (fs_if (ft_not (ft_val (fe_callK G__law_way_right (L2N.takes_of rfl rfl rfl rfl) (hr.mono (by decide)) rfl rfl (fa_cons (fe_var 2 (pv 2)) (fa_cons (fe_var 3 (pv 3)) (fa_cons (fe_var 4 (pv 4)) fa_nil)))))) (fss_one (fs_ret fe_bl)) fss_nil)
    (fss_cons (fs_set (i := 9) sc_law.nd rfl (Or.inl rfl) (fe_sub (fe_bltn o_len call_lenX rfl T.z_len PySem.boot_len (fa_cons (fe_callK G_levels (L2N.takes_of rfl rfl rfl rfl) (hr.mono (by decide)) rfl rfl (fa_cons (fe_var 2 (pv 2)) (fa_cons (fe_var 3 (pv 3)) fa_nil))) fa_nil)) fe_int))
    (fss_cons (fs_set (i := 10) sc_law.nd rfl (Or.inl rfl) (fe_bltn o_abs call_abs rfl T.z_abs PyProof.Rows.boot_abs (fa_cons (fe_sub (fe_ix (hu_of hr) (fe_var 3 (pv 3)) fe_int (fun _ _ => rfl)) (fe_ix (hu_of hr) (fe_var 4 (pv 4)) fe_int (fun _ _ => rfl))) fa_nil)))
    (fss_cons (fs_if (ft_cmp (o_cmpI (p := pLt)) op_lt (fe_var 6 (pv 6)) (fe_bltn o_min2 (call_min2 rfl) rfl T.z_min PyProof.Rows.boot_min (fa_cons (fe_var 10 (pv 10)) (fa_cons (fe_sub (fe_bltn o_len call_lenX rfl T.z_len PySem.boot_len (fa_cons (fe_var 2 (pv 2)) fa_nil)) (fe_var 10 (pv 10))) fa_nil))) (nomark _)) (fss_one (fs_ret fe_bl)) fss_nil)
    (fss_one (fs_if (ft_cmp (o_cmpI (p := pGt)) op_gt (fe_var 9 (pv 9)) (fe_add (fe_add (fe_div (fe_bltn o_len call_lenX rfl T.z_len PySem.boot_len (fa_cons (fe_var 2 (pv 2)) fa_nil)) fe_int) (fe_div (fe_bltn o_maxA (Fx.CallR.or (cr_max rfl) (cr_maxT rfl)) rfl T.z_max PyProof.Rows.boot_max (fa_cons (fe_var 2 (pv 2)) fa_nil)) fe_int)) (fe_bltn o_maxA (Fx.CallR.or (cr_max rfl) (cr_maxT rfl)) rfl T.z_max PyProof.Rows.boot_max (fa_cons (fe_var 2 (pv 2)) fa_nil))) (nomark _)) (fss_one (fs_ret fe_bl)) fss_nil))))))))))))))))
    (fss_one (fs_ret (fe_and (fe_cmp o_eq (op_eqD hr.units) (fe_callK G_fewest (L2N.takes_of rfl rfl rfl rfl) (hr.mono (by decide)) rfl rfl (fa_cons (fe_tup (fa_cons fe_int (fa_cons fe_int fa_nil))) (fa_cons (fe_tup (fa_cons fe_int (fa_cons fe_int fa_nil))) (fa_cons (fe_tup (fa_cons fe_int (fa_cons fe_int fa_nil))) fa_nil)))) fe_int (nomark _)) (fe_one (fe_cmp o_eq (op_eqD hr.units) (fe_callK G_fewest (L2N.takes_of rfl rfl rfl rfl) (hr.mono (by decide)) rfl rfl (fa_cons (fe_tup (fa_cons fe_int (fa_cons fe_int fa_nil))) (fa_cons (fe_tup (fa_cons fe_int (fa_cons fe_int fa_nil))) (fa_cons (fe_tup (fa_cons fe_int (fa_cons fe_int fa_nil))) fa_nil)))) fe_int (nomark _)))))))
theorem all_ok {P : Program} {w : World} {K : PySem.W.Frag} {h : Heap} {mg : Str → Option Value} {fa : Addr} (X : K.In h) (G : h.Ns mainGlobals mg) (hfa : mg "law" = some (.ref fa))
    (Z_abs : PySem.W.nsIn K mainGlobals "abs" = some none)
    (Z_all : PySem.W.nsIn K mainGlobals "all" = some none)
    (Z_bool : PySem.W.nsIn K mainGlobals "bool" = some none)
    (Z_enumerate : PySem.W.nsIn K mainGlobals "enumerate" = some none)
    (Z_int : PySem.W.nsIn K mainGlobals "int" = some none)
    (Z_isinstance : PySem.W.nsIn K mainGlobals "isinstance" = some none)
    (Z_len : PySem.W.nsIn K mainGlobals "len" = some none)
    (Z_list : PySem.W.nsIn K mainGlobals "list" = some none)
    (Z_max : PySem.W.nsIn K mainGlobals "max" = some none)
    (Z_min : PySem.W.nsIn K mainGlobals "min" = some none)
    (Z_range : PySem.W.nsIn K mainGlobals "range" = some none)
    (Z_set : PySem.W.nsIn K mainGlobals "set" = some none)
    (Z_str : PySem.W.nsIn K mainGlobals "str" = some none)
    (Z_sum : PySem.W.nsIn K mainGlobals "sum" = some none)
    (Z_tuple : PySem.W.nsIn K mainGlobals "tuple" = some none)
    (C_MAX_LENGTH : IntAt K "MAX_LENGTH" 31)
    (C_MAX_ROWS : IntAt K "MAX_ROWS" 12)
    (C_TURNS : StrsAt K "TURNS" ["C+", "C-", "R+", "R-"])
    (E_InvalidLengths : ExcAt K "InvalidLengths")
    (E_InvalidNumber : ExcAt K "InvalidNumber")
    (E_InvalidScript : ExcAt K "InvalidScript")
    (E_InvalidSetting : ExcAt K "InvalidSetting")
    (E_InvalidTurn : ExcAt K "InvalidTurn")
    (D_is_integer : DefAt K "is_integer" s_is_integer)
    (D_is_turn : DefAt K "is_turn" s_is_turn)
    (D_next_row : DefAt K "next_row" s_next_row)
    (D_month_lengths : DefAtB K "month_lengths" s_month_lengths "leap" false)
    (D_layer_of : DefAt K "layer_of" s_layer_of)
    (D__law_cell_at : DefAt K "_law_cell_at" s__law_cell_at)
    (D__law_draws : DefAt K "_law_draws" s__law_draws)
    (D__law_take : DefAt K "_law_take" s__law_take)
    (D__law_after : DefAt K "_law_after" s__law_after)
    (D_is_lengths : DefAt K "is_lengths" s_is_lengths)
    (D_fits : DefAt K "fits" s_fits)
    (D_need_turn : DefAt K "need_turn" s_need_turn)
    (D_is_script : DefAt K "is_script" s_is_script)
    (D_after_turn : DefAt K "after_turn" s_after_turn)
    (D__law_bag : DefAt K "_law_bag" s__law_bag)
    (D__law_lengths : DefAt K "_law_lengths" s__law_lengths)
    (D__law_start : DefAt K "_law_start" s__law_start)
    (D__law_run : DefAt K "_law_run" s__law_run)
    (D__law_showing : DefAt K "_law_showing" s__law_showing)
    (D_need_lengths : DefAt K "need_lengths" s_need_lengths)
    (D_need_setting : DefAt K "need_setting" s_need_setting)
    (D_need_script : DefAtI K "need_script" s_need_script 200)
    (D_after_script : DefAt K "after_script" s_after_script)
    (D_layers_from : DefAt K "layers_from" s_layers_from)
    (D__law_bags : DefAt K "_law_bags" s__law_bags)
    (D_turned : DefAt K "turned" s_turned)
    (D_walk : DefAt K "walk" s_walk)
    (D_need_pair : DefAt K "need_pair" s_need_pair)
    (D_levels : DefAt K "levels" s_levels)
    (D_fewest : DefAt K "fewest" s_fewest)
    (D_shortest : DefAt K "shortest" s_shortest)
    (D_count_shortest : DefAt K "count_shortest" s_count_shortest)
    (D__law_way_right : DefAt K "_law_way_right" s__law_way_right)
    (D_law : DefAt K "law" s_law)
    : ∃ fd : FuncData, (∀ (s : Shared) (u : Value), BindsTo s fd ⟨[u], []⟩ [("_law_script", u)]) ∧ ∀ base : Heap, K.In base → base.Ns mainGlobals mg → FnOk P w K mg base (L2N.CX P w) 9 fa fd ["_law_script"] (spL ⟨P, w, K⟩ d_law) := by
  have T : Txt w K mg := ⟨PySem.W.mg_none_of X G Z_abs, PySem.W.mg_none_of X G Z_all, PySem.W.mg_none_of X G Z_bool, PySem.W.mg_none_of X G Z_enumerate, PySem.W.mg_none_of X G Z_int, PySem.W.mg_none_of X G Z_isinstance, PySem.W.mg_none_of X G Z_len, PySem.W.mg_none_of X G Z_list, PySem.W.mg_none_of X G Z_max, PySem.W.mg_none_of X G Z_min, PySem.W.mg_none_of X G Z_range, PySem.W.mg_none_of X G Z_set, PySem.W.mg_none_of X G Z_str, PySem.W.mg_none_of X G Z_sum, PySem.W.mg_none_of X G Z_tuple, IntAt.ok X G C_MAX_LENGTH, IntAt.ok X G C_MAX_ROWS, StrsAt.ok X G C_TURNS rfl, ExcAt.ok X G E_InvalidLengths, ExcAt.ok X G E_InvalidNumber, ExcAt.ok X G E_InvalidScript, ExcAt.ok X G E_InvalidSetting, ExcAt.ok X G E_InvalidTurn⟩
  obtain ⟨f, oc, od, an, osl, kV, doc, pm, cdv, ct, h1, h2, h3, h4⟩ := D_law
  have e := hfa.symm.trans (PySem.W.mg_of X G h1)
  cases e
  refine ⟨PySem.W.fnOf "law" "law" (defArgs s_law) (defBody s_law) (defScope s_law) .none kV doc pm an cdv ct, fun s v => .of_eq rfl, fun base _ _ => ?_⟩
  have G_is_integer : DefOk P w K mg base "is_integer" 1 ["value", "low", "high"] d_is_integer := D_is_integer.ok X G (fun f fd F => ok_is_integer F T) (fun _ _ _ _ _ _ us hl => match us, hl with | [_, _, _], _ => rfl)
  have G_is_turn : DefOk P w K mg base "is_turn" 1 ["value"] d_is_turn := D_is_turn.ok X G (fun f fd F => ok_is_turn F T) (fun _ _ _ _ _ _ us hl => match us, hl with | [_], _ => rfl)
  have G_next_row : DefOk P w K mg base "next_row" 1 ["lengths", "row", "turn"] d_next_row := D_next_row.ok X G (fun f fd F => ok_next_row F T) (fun _ _ _ _ _ _ us hl => match us, hl with | [_, _, _], _ => rfl)
  have G_month_lengths : DefOkB P w K mg base "month_lengths" 1 "leap" d_month_lengths false := D_month_lengths.ok X G (fun f fd F => ok_month_lengths F T) (fun _ _ _ _ _ _ _ => ⟨_, _, _, _, _, _, rfl, rfl, rfl⟩)
  have G_layer_of : DefOk P w K mg base "layer_of" 1 ["layers", "goal"] d_layer_of := D_layer_of.ok X G (fun f fd F => ok_layer_of F T) (fun _ _ _ _ _ _ us hl => match us, hl with | [_, _], _ => rfl)
  have G__law_cell_at : DefOk P w K mg base "_law_cell_at" 1 ["_law_script", "_law_k"] d__law_cell_at := D__law_cell_at.ok X G (fun f fd F => ok__law_cell_at F T) (fun _ _ _ _ _ _ us hl => match us, hl with | [_, _], _ => rfl)
  have G__law_draws : DefOk P w K mg base "_law_draws" 1 ["_law_cell", "_law_many", "_law_size"] d__law_draws := D__law_draws.ok X G (fun f fd F => ok__law_draws F T) (fun _ _ _ _ _ _ us hl => match us, hl with | [_, _, _], _ => rfl)
  have G__law_take : DefOk P w K mg base "_law_take" 1 ["_law_bag_here", "_law_many"] d__law_take := D__law_take.ok X G (fun f fd F => ok__law_take F T) (fun _ _ _ _ _ _ us hl => match us, hl with | [_, _], _ => rfl)
  have G__law_after : DefOk P w K mg base "_law_after" 1 ["_law_lengths_here", "_law_setting", "_law_turn"] d__law_after := D__law_after.ok X G (fun f fd F => ok__law_after F T) (fun _ _ _ _ _ _ us hl => match us, hl with | [_, _, _], _ => rfl)
  have G_is_lengths : DefOk P w K mg base "is_lengths" 2 ["value"] d_is_lengths := D_is_lengths.ok X G (fun f fd F => ok_is_lengths F T G_is_integer) (fun _ _ _ _ _ _ us hl => match us, hl with | [_], _ => rfl)
  have G_fits : DefOk P w K mg base "fits" 2 ["lengths", "value"] d_fits := D_fits.ok X G (fun f fd F => ok_fits F T G_is_integer) (fun _ _ _ _ _ _ us hl => match us, hl with | [_, _], _ => rfl)
  have G_need_turn : DefOk P w K mg base "need_turn" 2 ["value"] d_need_turn := D_need_turn.ok X G (fun f fd F => ok_need_turn F T G_is_turn) (fun _ _ _ _ _ _ us hl => match us, hl with | [_], _ => rfl)
  have G_is_script : DefOk P w K mg base "is_script" 2 ["value", "most"] d_is_script := D_is_script.ok X G (fun f fd F => ok_is_script F T G_is_turn) (fun _ _ _ _ _ _ us hl => match us, hl with | [_, _], _ => rfl)
  have G_after_turn : DefOk P w K mg base "after_turn" 2 ["lengths", "setting", "turn"] d_after_turn := D_after_turn.ok X G (fun f fd F => ok_after_turn F T G_next_row) (fun _ _ _ _ _ _ us hl => match us, hl with | [_, _, _], _ => rfl)
  have G__law_bag : DefOk P w K mg base "_law_bag" 2 ["_law_script", "_law_k"] d__law_bag := D__law_bag.ok X G (fun f fd F => ok__law_bag F T G__law_draws G__law_cell_at) (fun _ _ _ _ _ _ us hl => match us, hl with | [_, _], _ => rfl)
  have G__law_lengths : DefOk P w K mg base "_law_lengths" 2 ["_law_bag_here", "_law_rows", "_law_most"] d__law_lengths := D__law_lengths.ok X G (fun f fd F => ok__law_lengths F T G__law_take) (fun _ _ _ _ _ _ us hl => match us, hl with | [_, _, _], _ => rfl)
  have G__law_start : DefOk P w K mg base "_law_start" 2 ["_law_bag_here", "_law_lengths_here"] d__law_start := D__law_start.ok X G (fun f fd F => ok__law_start F T G__law_take) (fun _ _ _ _ _ _ us hl => match us, hl with | [_, _], _ => rfl)
  have G__law_run : DefOk P w K mg base "_law_run" 2 ["_law_lengths_here", "_law_setting", "_law_script"] d__law_run := D__law_run.ok X G (fun f fd F => ok__law_run F T G__law_after) (fun _ _ _ _ _ _ us hl => match us, hl with | [_, _, _], _ => rfl)
  have G__law_showing : DefOk P w K mg base "_law_showing" 2 ["_law_lengths_here"] d__law_showing := D__law_showing.ok X G (fun f fd F => ok__law_showing F T G__law_after) (fun _ _ _ _ _ _ us hl => match us, hl with | [_], _ => rfl)
  have G_need_lengths : DefOk P w K mg base "need_lengths" 3 ["value"] d_need_lengths := D_need_lengths.ok X G (fun f fd F => ok_need_lengths F T G_is_lengths) (fun _ _ _ _ _ _ us hl => match us, hl with | [_], _ => rfl)
  have G_need_setting : DefOk P w K mg base "need_setting" 3 ["lengths", "value"] d_need_setting := D_need_setting.ok X G (fun f fd F => ok_need_setting F T G_fits) (fun _ _ _ _ _ _ us hl => match us, hl with | [_, _], _ => rfl)
  have GD_need_script : DefOkI P w K mg base "need_script" 3 ["value", "most"] d_need_script 200 := D_need_script.ok X G (fun f fd F => ok_need_script F T G_is_script) 1 rfl (fun _ _ _ _ _ _ _ us its h1 h2 => match us, its, h1, h2 with | [_], [_], _, _ => ⟨_, rfl, rfl⟩)
  have G_after_script : DefOk P w K mg base "after_script" 3 ["lengths", "setting", "script"] d_after_script := D_after_script.ok X G (fun f fd F => ok_after_script F T G_after_turn) (fun _ _ _ _ _ _ us hl => match us, hl with | [_, _, _], _ => rfl)
  have G_layers_from : DefOk P w K mg base "layers_from" 3 ["lengths", "start"] d_layers_from := D_layers_from.ok X G (fun f fd F => ok_layers_from F T G_after_turn) (fun _ _ _ _ _ _ us hl => match us, hl with | [_, _], _ => rfl)
  have G__law_bags : DefOk P w K mg base "_law_bags" 3 ["_law_script", "_law_limit"] d__law_bags := D__law_bags.ok X G (fun f fd F => ok__law_bags F T G__law_bag) (fun _ _ _ _ _ _ us hl => match us, hl with | [_, _], _ => rfl)
  have G_turned : DefOkV P w K mg base "turned" 4 2 d_turned := D_turned.okV X G (fun f fd F => ok_turned F T G_need_lengths G_need_setting G_after_script G_need_turn)
  have G_walk : DefOkG P w K mg base "walk" 4 ["lengths", "start", "script"] d_walk := D_walk.okG X G (fun f fd F => ok_walk F T G_need_lengths G_need_setting GD_need_script G_after_turn) (fun _ _ _ _ _ _ us hl => match us, hl with | [_, _, _], _ => rfl)
  have G_need_pair : DefOk P w K mg base "need_pair" 4 ["lengths", "start", "goal"] d_need_pair := D_need_pair.ok X G (fun f fd F => ok_need_pair F T G_need_lengths G_need_setting) (fun _ _ _ _ _ _ us hl => match us, hl with | [_, _, _], _ => rfl)
  have G_levels : DefOk P w K mg base "levels" 4 ["lengths", "start"] d_levels := D_levels.ok X G (fun f fd F => ok_levels F T G_need_lengths G_need_setting G_layers_from) (fun _ _ _ _ _ _ us hl => match us, hl with | [_, _], _ => rfl)
  have G_fewest : DefOk P w K mg base "fewest" 5 ["lengths", "start", "goal"] d_fewest := D_fewest.ok X G (fun f fd F => ok_fewest F T G_need_pair G_layer_of G_layers_from) (fun _ _ _ _ _ _ us hl => match us, hl with | [_, _, _], _ => rfl)
  have G_shortest : DefOk P w K mg base "shortest" 5 ["lengths", "start", "goal"] d_shortest := D_shortest.ok X G (fun f fd F => ok_shortest F T G_need_pair G_layers_from G_layer_of G_after_turn) (fun _ _ _ _ _ _ us hl => match us, hl with | [_, _, _], _ => rfl)
  have G_count_shortest : DefOk P w K mg base "count_shortest" 5 ["lengths", "start", "goal"] d_count_shortest := D_count_shortest.ok X G (fun f fd F => ok_count_shortest F T G_need_pair G_layers_from G_layer_of) (fun _ _ _ _ _ _ us hl => match us, hl with | [_, _, _], _ => rfl)
  have G__law_way_right : DefOk P w K mg base "_law_way_right" 8 ["_law_lengths_here", "_law_one", "_law_two"] d__law_way_right := D__law_way_right.ok X G (fun f fd F => ok__law_way_right F T G_fewest G_shortest G__law_run G_count_shortest G_turned G_levels G_walk) (fun _ _ _ _ _ _ us hl => match us, hl with | [_, _, _], _ => rfl)
  exact (ok_law (fun_mk (st := s_law) h2 h3 h4) T G__law_bags G__law_showing G__law_take G__law_start G_fewest G__law_way_right G__law_lengths G_month_lengths G_levels).imp fun _ _ _ _ h => spL_imp h
end LK

namespace LK
open PySem Fx
theorem is_integer_eq (v lo hi : Int) (st : Sto) : d_is_integer [.d (.int v), .d (.int lo), .d (.int hi)] st = .ok (.d (.bool (decide (lo ≤ v) && decide (v ≤ hi)))) st := by
  by_cases h : lo ≤ v <;> simp [d_is_integer, b_is_integer, defF, g1, g2, fIsi, tyName, isiB, h]
theorem next_row_eq {L : List Int} (h : OkL L) (r : Int) (t : Tn) (st : Sto) : d_next_row [.d (iL L), .d (.int r), .d (tD t)] st = .ok (.d (.int (nxr L r t))) st := by
  have hl := h.len
  cases t <;> simp [d_next_row, b_next_row, defF, g1, g2, iL, nxr, fMod_int hl]
theorem after_turn_eq {L : List Int} (h : OkL L) {s : Pr} (hs : OkS L s) (t : Tn) (st : Sto) : d_after_turn [.d (iL L), .d (prD s), .d (tD t)] st = .ok (.d (prD (aft L s t))) st := by
  have a := h.at hs.r0 hs.r1
  have b := nxr_ok h hs.r0 hs.r1 t
  have e1 := fIx_iL hs.r0 hs.r1
  have e2 := fIx_iL b.1 b.2
  have e3 := fun i => fMod_int (i := i) (j := gL L s.1) (by omega)
  have e4 := next_row_eq h s.1 t st
  cases t <;> simp [d_after_turn, b_after_turn, defF, g1, g2, prD, aft, e1, e2, e3, e4, gSeq, frzs_data]
theorem is_lengths_eq {L : List Int} (h : OkL L) (st : Sto) : d_is_lengths [.d (iL L)] st = .ok (.d (.bool true)) st := by
  have h1 : (1 : Int) ≤ L.length := by have := h.ne; omega
  have h2 : (L.length : Int) ≤ 12 := by have := h.le; omega
  have hz : L.length ≤ sizeLine := small_le (by have := h.le; omega)
  have e : lcF (gN 1) tYesF (cA d_is_integer (aCons (cVar 1) (aCons (cD (.int 1)) (aCons (cD (.int 31)) aNil)))) [some (.d (iL L)), none] (L.map fun x => .d (.int x)) [] st
      = .ok (.d (.list (L.map fun x => .bool (decide (1 ≤ x) && decide (x ≤ 31))))) st :=
    lcF_map (fun x => .d (.int x)) (fun x => .bool (decide (1 ≤ x) && decide (x ≤ 31))) L fun x hx => ⟨[some (.d (iL L)), some (.d (.int x))], by simp, by simp, by simp [is_integer_eq]⟩
  have a : (L.all fun x => decide (1 ≤ x) && decide (x ≤ 31)) = true := List.all_eq_true.mpr fun x hx => by have := h.all x hx; simp [this.1, this.2]
  have e2 : (L.map PyData.int).map W.d = L.map fun x => W.d (.int x) := by rw [List.map_map]; rfl
  simp [d_is_lengths, b_is_lengths, defF, g1, g2, h1, h2, hz, e, e2, fAll_map, a]
theorem need_lengths_eq {L : List Int} (h : OkL L) (st : Sto) : d_need_lengths [.d (iL L)] st = .ok (.d .none) st := by
  simp [d_need_lengths, b_need_lengths, defF, is_lengths_eq h]
end LK

namespace LK
open PySem Fx
theorem fits_eq {L : List Int} (h : OkL L) {s : Pr} (hs : OkS L s) (st : Sto) : d_fits [.d (iL L), .d (prD s)] st = .ok (.d (.bool true)) st := by
  have e1 := fIx_iL hs.r0 hs.r1
  have r0 := hs.r0
  have r1 : s.1 ≤ (L.length : Int) - 1 := by have := hs.r1; omega
  have c0 := hs.c0
  have c1 : s.2 ≤ gL L s.1 - 1 := by have := hs.c1; omega
  have e2 : fLen (prD s) = some (.int 2) := rfl
  simp [d_fits, b_fits, defF, g1, g2, e1, e2, is_integer_eq, r0, r1, c0, c1, rep_int.ne (by decide)]
theorem need_setting_eq {L : List Int} (h : OkL L) {s : Pr} (hs : OkS L s) (st : Sto) : d_need_setting [.d (iL L), .d (prD s)] st = .ok (.d .none) st := by
  simp [d_need_setting, b_need_setting, defF, fits_eq h hs]
end LK

namespace LK
open PySem Fx
theorem need_pair_eq {L : List Int} (h : OkL L) {s g : Pr} (hs : OkS L s) (hg : OkS L g) (st : Sto) : d_need_pair [.d (iL L), .d (prD s), .d (prD g)] st = .ok (.d .none) st := by
  simp [d_need_pair, b_need_pair, defF, need_lengths_eq h, need_setting_eq h hs, need_setting_eq h hg]
end LK

namespace LK
open PySem Fx
abbrev layD (m : List (Pr × Int)) : PyData := dD prD .int m
abbrev layK (m : List (Pr × Int)) : Kvs := dK prK .int m
abbrev seenK (m : List Pr) : Kvs := dK prK .bool (seenM m)
/-- inner part: one setting of the level -/
structure AccOk (L : List Int) (acc : List (Pr × Int)) : Prop where
  nd : (acc.map (·.1)).Nodup
  ok : ∀ x ∈ acc.map (·.1), OkS L x
theorem AccOk.len {L : List Int} (h : OkL L) {acc : List (Pr × Int)} (a : AccOk L acc) : acc.length ≤ 372 := by
  have := nodup_sub a.nd (U := setsM L) fun x hx => mem_setsM.mpr (a.ok x hx)
  rw [List.length_map] at this
  exact Nat.le_trans this (setsM_len h)
theorem AccOk.add {L : List Int} {acc : List (Pr × Int)} (a : AccOk L acc) {seen : List Pr} {w : Int} {o : Pr} (ho : OkS L o) : AccOk L (addW seen w acc o) := by
  unfold addW
  split
  · exact a
  · exact ⟨aput_nodup a.nd, fun x hx => (mem_aput.mp hx).elim (a.ok x) fun e => e ▸ ho⟩
theorem AccOk.nil {L : List Int} : AccOk L [] := ⟨by simp, fun x hx => by simp at hx⟩
/-- the store while a level is made: seen at n, the levels at n + 1, the new level at l -/
structure LvAt (st m : Sto) (l : Nat) (seen : List Pr) (Ls : List (List (Pr × Int))) (acc : List (Pr × Int)) : Prop where
  a : m[st.length]? = some ⟨true, .dic (seenK seen)⟩
  b : m[st.length + 1]? = some ⟨true, .lst (Ls.map layD)⟩
  c : m[l]? = some ⟨true, .dic (layK acc)⟩
  l : st.length + 1 < l
  t : m.take st.length = st
theorem lev_turn {L : List Int} (h : OkL L) {st m : Sto} {l : Nat} {seen : List Pr} {Ls : List (List (Pr × Int))} {acc : List (Pr × Int)} (at_ : LvAt st m l seen Ls acc) (ok : AccOk L acc) {s p : Pr} (hp : OkS L p) (w : Int) (t : Tn) (x8 : Option W) :
    ∃ m', (sSeq (sSet 8 (cA d_after_turn (aCons (cVar 0) (aCons (cVar 5) (aCons (cVar 7) (aNil))))))
    (sIf (tB (c2 (g2 (fIn' true)) (cVar 8) (cVar 2))) (sPut (cVar 4) (cVar 8) (c2 (g2 fAdd) (cGet (cVar 4) (aCons (cVar 8) (aCons (cD (.int 0)) (aNil)))) (cVar 6))) (sNx)))
      [some (.d (iL L)), some (.d (prD s)), some (.h st.length), some (.h (st.length + 1)), some (.h l), some (.d (prD p)), some (.d (.int w)), some (.d (tD t)), x8] m
    = .nx [some (.d (iL L)), some (.d (prD s)), some (.h st.length), some (.h (st.length + 1)), some (.h l), some (.d (prD p)), some (.d (.int w)), some (.d (tD t)), some (.d (prD (aft L p t)))] m' ∧ LvAt st m' l seen Ls (addW seen w acc (aft L p t)) ∧ AccOk L (addW seen w acc (aft L p t)) ∧ m'.length = m.length := by
  have e1 := after_turn_eq h hp t m
  have e2 := der_dic_at keyRep_pr PyData.bool at_.a
  have e3 := der_dic_at keyRep_pr PyData.int at_.c
  have e4 := fIn_dic keyRep_pr PyData.bool true (seenM seen) (aft L p t)
  rw [seenM_keys] at e4
  have e5 := isDic_of e3
  have e6 := gGet_dic keyRep_pr PyData.int e3 (aft L p t) (.int 0)
  have hl := ok.len h
  have e7 : (((aget acc (aft L p t)).map PyData.int).getD (.int 0)) = .int ((aget acc (aft L p t)).getD 0) := by cases aget acc (aft L p t) <;> rfl
  rw [e7] at e6
  have e8 := gPut_dic keyRep_pr PyData.int at_.c (by omega) (aft L p t) ((aget acc (aft L p t)).getD 0 + w)
  by_cases hx : aft L p t ∈ seen
  · have ea : addW seen w acc (aft L p t) = acc := by unfold addW; rw [if_pos hx]
    rw [ea]
    refine ⟨m, ?_, at_, ok, rfl⟩
    simp [e1, g2, e2, e4, hx, -der_h]
  · have ea : addW seen w acc (aft L p t) = aput acc (aft L p t) ((aget acc (aft L p t)).getD 0 + w) := by unfold addW; rw [if_neg hx]
    refine ⟨m.set l ⟨true, .dic (layK (aput acc (aft L p t) ((aget acc (aft L p t)).getD 0 + w)))⟩, ?_, ?_, ok.add (aft_ok h hp t), by simp⟩
    · simp [e1, g2, e2, e4, hx, e5, e6, e8, -der_h]
    · rw [ea]
      have := at_.l
      exact ⟨get_set at_.a (by omega), get_set at_.b (by omega), get_self at_.c, this, by rw [take_set (by omega)]; exact at_.t⟩
end LK

namespace LK
open PySem Fx
def fT : SF := sSeq (sSet 8 (cA d_after_turn (aCons (cVar 0) (aCons (cVar 5) (aCons (cVar 7) (aNil))))))
    (sIf (tB (c2 (g2 (fIn' true)) (cVar 8) (cVar 2))) (sPut (cVar 4) (cVar 8) (c2 (g2 fAdd) (cGet (cVar 4) (aCons (cVar 8) (aCons (cD (.int 0)) (aNil)))) (cVar 6))) (sNx))
def fS : SF := sFor (iSeqF (cD (.tuple [(.str "C+"), (.str "C-"), (.str "R+"), (.str "R-")]))) (gN 7) fT
def fSeen : SF := sFor (iSeqF (cVar 4)) (gN 5) (sPut (cVar 2) (cVar 5) (cD (.bool true)))
def fBody : SF := sSeq (sSet 4 (cDicH)) (sSeq (sFor (iItemsF (c2 (g2 fIx) (cVar 3) (c1 (g1 fNeg) (cD (.int 1))))) (gT 2 (gsCons (gN 5) (gsCons (gN 6) gsNil))) fS)
    (sSeq fSeen (sExpr (cApp (cVar 3) (cVar 4)))))
def fCond : TF := tB (c2 (g2 (fDic0 true)) (c2 (g2 fIx) (cVar 3) (c1 (g1 fNeg) (cD (.int 1)))) (cD (.dict [])))
theorem b_layers_form : b_layers_from = sSeq (sPar2 2 3 (aCons (cDic1 true (cVar 1) (cD (.bool true))) (aCons (cA gLstH (aCons (cDic1 false (cVar 1) (cD (.int 1))) (aNil))) (aNil))))
    (sSeq (sWhile FUEL fCond fBody) (sRet (cSl (cVar 3) pNone (pSome (c1 (g1 fNeg) (cD (.int 1))))))) := rfl
section
variable {L : List Int} {st : Sto} {s : Pr} {l : Nat} {seen : List Pr} {Ls : List (List (Pr × Int))}
abbrev lvR (L : List Int) (st : Sto) (s : Pr) (l : Nat) (x5 x6 x7 x8 : Option W) : Lv := [some (.d (iL L)), some (.d (prD s)), some (.h st.length), some (.h (st.length + 1)), some (.h l), x5, x6, x7, x8]
theorem strs_allT : ([PyData.str "C+", .str "C-", .str "R+", .str "R-"].map W.d) = allT.map fun t => W.d (tD t) := rfl
theorem lev_set (h : OkL L) {m : Sto} {acc : List (Pr × Int)} (at_ : LvAt st m l seen Ls acc) (ok : AccOk L acc) {p : Pr} (hp : OkS L p) (w : Int) (x7 x8 : Option W) :
    ∃ x7' x8' m', fS (lvR L st s l (some (.d (prD p))) (some (.d (.int w))) x7 x8) m = .nx (lvR L st s l (some (.d (prD p))) (some (.d (.int w))) x7' x8') m' ∧ LvAt st m' l seen Ls ((nbs L p).foldl (addW seen w) acc) ∧ AccOk L ((nbs L p).foldl (addW seen w) acc) ∧ m'.length = m.length := by
  obtain ⟨ρ', m', e, ⟨x7', x8', rfl, a, b, c⟩⟩ := forF_foldR (g := gN 7) (F := fT) (fun t : Tn => .d (tD t)) (fun acc ρ m' => ∃ x7 x8, ρ = lvR L st s l (some (.d (prD p))) (some (.d (.int w))) x7 x8 ∧ LvAt st m' l seen Ls acc ∧ AccOk L acc ∧ m'.length = m.length)
    (fun acc t => addW seen w acc (aft L p t)) allT (s := acc) (ρ := lvR L st s l (some (.d (prD p))) (some (.d (.int w))) x7 x8) (st := m) ⟨x7, x8, rfl, at_, ok, rfl⟩
    fun t _ acc ρ m1 ⟨y7, y8, e, a, b, c⟩ => by
      subst e
      obtain ⟨m2, e2, a2, b2, c2⟩ := lev_turn h a b (s := s) hp w t y8
      exact ⟨lvR L st s l (some (.d (prD p))) (some (.d (.int w))) (some (.d (tD t))) y8, _, m2, rfl, e2, _, _, rfl, a2, b2, c2.trans c⟩
  refine ⟨x7', x8', m', ?_, ?_, ?_, c⟩
  · unfold fS
    rw [sFor_app, iSeqF_app, cD_app, R.bind_ok, walkW_tup, strs_allT]
    exact e
  · rw [nbs_map, List.foldl_map]; exact a
  · rw [nbs_map, List.foldl_map]; exact b
theorem lev_all (h : OkL L) {m : Sto} {layer : List (Pr × Int)} (hl : ∀ p ∈ layer, OkS L p.1) (at_ : LvAt st m l seen (Ls ++ [layer]) []) (x5 x6 x7 x8 : Option W) :
    ∃ x5' x6' x7' x8' m', sFor (iItemsF (c2 (g2 fIx) (cVar 3) (c1 (g1 fNeg) (cD (.int 1))))) (gT 2 (gsCons (gN 5) (gsCons (gN 6) gsNil))) fS (lvR L st s l x5 x6 x7 x8) m = .nx (lvR L st s l x5' x6' x7' x8') m' ∧ LvAt st m' l seen (Ls ++ [layer]) (nextL (nbs L) seen layer) ∧ AccOk L (nextL (nbs L) seen layer) ∧ m'.length = m.length := by
  obtain ⟨ρ', m', e, ⟨x5', x6', x7', x8', rfl, a, b, c⟩⟩ := forF_foldR (g := gT 2 (gsCons (gN 5) (gsCons (gN 6) gsNil))) (F := fS) (fun p : Pr × Int => .d (.tuple [prD p.1, .int p.2])) (fun acc ρ m' => ∃ x5 x6 x7 x8, ρ = lvR L st s l x5 x6 x7 x8 ∧ LvAt st m' l seen (Ls ++ [layer]) acc ∧ AccOk L acc ∧ m'.length = m.length)
    (fun acc p => (nbs L p.1).foldl (addW seen p.2) acc) layer (s := []) (ρ := lvR L st s l x5 x6 x7 x8) (st := m) ⟨x5, x6, x7, x8, rfl, at_, .nil, rfl⟩
    fun p hp acc ρ m1 ⟨y5, y6, y7, y8, e, a, b, c⟩ => by
      subst e
      obtain ⟨z7, z8, m2, e2, a2, b2, c2⟩ := lev_set h a b (s := s) (hl p hp) p.2 y7 y8
      exact ⟨lvR L st s l (some (.d (prD p.1))) (some (.d (.int p.2))) y7 y8, _, m2, rfl, e2, _, _, _, _, rfl, a2, b2, c2.trans c⟩
  refine ⟨x5', x6', x7', x8', m', ?_, a, b, c⟩
  have e1 : der m (.h (st.length + 1)) = some (.list ((Ls ++ [layer]).map layD)) := by rw [der_h, at_.b]; rfl
  have e2 : fIx (.list ((Ls ++ [layer]).map layD)) (.int (-1)) = some (layD layer) := by
    show L2.atI _ _ = _
    rw [List.map_append, List.map_cons, List.map_nil, atI_last]
  have e3 : c2 (g2 fIx) (cVar 3) (c1 (g1 fNeg) (cD (.int 1))) (lvR L st s l x5 x6 x7 x8) m = .ok (.d (layD layer)) m := by
    have e4 : fNeg (.int 1) = some (.int (-1)) := rfl
    simp [g1, g2, -der_h, e1, e2, e4, -List.map_append]
  rw [sFor_app, iItemsF_app, e3, R.bind_ok, itemsW_dD]
  exact e
theorem seen_all {m : Sto} {layer acc : List (Pr × Int)} (h : OkL L) (ha : AccOk L acc) (hs : (seen ++ acc.map (·.1)).Nodup) (hb : ∀ x ∈ seen, OkS L x) (at_ : LvAt st m l seen Ls acc) (x5 x6 x7 x8 : Option W) :
    ∃ x5' m', fSeen (lvR L st s l x5 x6 x7 x8) m = .nx (lvR L st s l x5' x6 x7 x8) m' ∧ m'[st.length]? = some ⟨true, .dic (seenK (seen ++ acc.map (·.1)))⟩ ∧ m'[st.length + 1]? = some ⟨true, .lst (Ls.map layD)⟩ ∧ m'[l]? = some ⟨false, .dic (layK acc)⟩ ∧ m'.take st.length = st ∧ m'.length = m.length := by
  have hl := at_.l
  obtain ⟨ρ', m', e, ⟨x5', rfl, a1, a2, a3, a4, a5, a6, a7⟩⟩ := forF_foldR (g := gN 5) (F := sPut (cVar 2) (cVar 5) (cD (.bool true))) (fun p : Pr => .d (prD p))
    (fun sn ρ m' => ∃ x5, ρ = lvR L st s l x5 x6 x7 x8 ∧ m'[st.length]? = some ⟨true, .dic (seenK sn)⟩ ∧ m'[st.length + 1]? = some ⟨true, .lst (Ls.map layD)⟩ ∧ m'[l]? = some ⟨false, .dic (layK acc)⟩ ∧ m'.take st.length = st ∧ m'.length = m.length ∧ sn.Nodup ∧ ∀ x ∈ sn, OkS L x)
    addS (acc.map (·.1)) (s := seen) (ρ := lvR L st s l x5 x6 x7 x8) (st := m.set l ⟨false, .dic (layK acc)⟩)
    ⟨x5, rfl, get_set at_.a (by omega), get_set at_.b (by omega), get_self at_.c, by rw [take_set (by omega)]; exact at_.t, by simp, (List.nodup_append.mp hs).1, hb⟩
    fun p hp sn ρ m1 ⟨y5, e, a1, a2, a3, a4, a5, a6, a7⟩ => by
      subst e
      have hlen : (seenM sn).length ≤ 1000000 := by
        have := nodup_sub a6 (U := setsM L) fun x hx => mem_setsM.mpr (a7 x hx)
        have := setsM_len h
        unfold seenM; rw [List.length_map]; omega
      have e1 := gPut_dic keyRep_pr PyData.bool a1 hlen p true
      rw [seenM_put] at e1
      refine ⟨lvR L st s l (some (.d (prD p))) x6 x7 x8, lvR L st s l (some (.d (prD p))) x6 x7 x8, m1.set st.length ⟨true, .dic (seenK (addS sn p))⟩, rfl, by simp [e1], some (.d (prD p)), rfl, get_self a1, get_set a2 (by omega), get_set a3 (by omega), by rw [take_set (Nat.le_refl _)]; exact a4, by simpa using a5, ?_, ?_⟩
      · unfold addS
        split
        · exact a6
        · rename_i hn
          rw [List.nodup_append]
          exact ⟨a6, by simp, fun a ha b hb e => hn (by simp only [List.mem_singleton] at hb; subst hb; subst e; exact ha)⟩
      · intro x hx
        unfold addS at hx
        split at hx
        · exact a7 x hx
        · rcases List.mem_append.mp hx with q | q
          · exact a7 x q
          · rw [List.mem_singleton] at q; subst q; exact ha.ok x hp
  rw [addS_fold _ _ hs] at a1
  refine ⟨x5', m', ?_, a1, a2, a3, a4, a5⟩
  unfold fSeen
  have e3 : cVar 4 (lvR L st s l x5 x6 x7 x8) m = .ok (.h l) m := by simp
  rw [sFor_app, iSeqF_app, e3, R.bind_ok, walkW_dic keyRep_pr at_.c]
  exact e
end
end LK

namespace LK
open PySem Fx
theorem runL_len {α : Type} [DecidableEq α] {nb : α → List α} : ∀ (n : Nat) (seen : List α) (layer : List (α × Int)), (runL nb n seen layer).length ≤ n
  | 0, _, _ => Nat.le_refl _
  | n + 1, seen, layer => by
    unfold runL
    split
    · exact Nat.zero_le _
    · rw [List.length_cons]; exact Nat.succ_le_succ (runL_len n _ _)
structure LvS where
  n : Nat
  k : Nat
  seen : List Pr
  Ls : List (List (Pr × Int))
  layer : List (Pr × Int)
structure LvI (L : List Int) (st : Sto) (s : Pr) (S : LvS) (ρ : Lv) (m : Sto) : Prop where
  ρ : ∃ x4 x5 x6 x7 x8, ρ = [some (.d (iL L)), some (.d (prD s)), some (.h st.length), some (.h (st.length + 1)), x4, x5, x6, x7, x8]
  a : m[st.length]? = some ⟨true, .dic (seenK S.seen)⟩
  b : m[st.length + 1]? = some ⟨true, .lst ((S.Ls ++ [S.layer]).map layD)⟩
  t : m.take st.length = st
  g : StL (nbs L) (setsM L) s S.k S.seen S.layer
  r : S.Ls ++ runL (nbs L) S.n S.seen S.layer = layM L s
  f : S.layer ≠ [] → (setsM L).length + 2 ≤ S.seen.length + S.n
theorem layers_from_eq {L : List Int} (h : OkL L) {s : Pr} (hs : OkS L s) (st : Sto) : d_layers_from [.d (iL L), .d (prD s)] st = .ok (.d (.list ((layM L s).map layD))) st := by
  have lM : (layM L s).length ≤ 400 := runL_len _ _ _
  obtain ⟨S', ρ', m', e, ⟨x4, x5, x6, x7, x8, rfl⟩, hb, ht, hr⟩ := whileF_inv (c := fCond) (F := fBody) (LvI L st s)
    (fun S ρ m => (∃ x4 x5 x6 x7 x8, ρ = [some (.d (iL L)), some (.d (prD s)), some (.h st.length), some (.h (st.length + 1)), x4, x5, x6, x7, x8]) ∧ m[st.length + 1]? = some ⟨true, .lst ((layM L s ++ [[]]).map layD)⟩ ∧ m.take st.length = st ∧ True) (fun S => S.n + 1)
    (fun S ρ m i => by
      obtain ⟨n, k, seen, Ls, layer⟩ := S
      obtain ⟨⟨x4, x5, x6, x7, x8, rfl⟩, ia, ib, it, ig, ir, iff⟩ := i
      simp only at ia ib ig ir iff
      have e1 : der m (.h (st.length + 1)) = some (.list ((Ls ++ [layer]).map layD)) := by rw [der_h, ib]; rfl
      have e2 : fIx (.list ((Ls ++ [layer]).map layD)) (.int (-1)) = some (layD layer) := by
        show L2.atI _ _ = _
        rw [List.map_append, List.map_cons, List.map_nil, atI_last]
      have e4 : fNeg (.int 1) = some (.int (-1)) := rfl
      have ec : fCond [some (.d (iL L)), some (.d (prD s)), some (.h st.length), some (.h (st.length + 1)), x4, x5, x6, x7, x8] m = .ok (!layer.isEmpty) m := by
        have e5 := fDic0_dD prD PyData.int true layer
        simp [fCond, g1, g2, -der_h, e1, e2, e4, e5, -List.map_append]
      by_cases hne : layer = []
      · subst hne
        rw [runL_nil, List.append_nil] at ir
        subst ir
        exact .inl ⟨m, ec, ⟨x4, x5, x6, x7, x8, rfl⟩, ib, it, trivial⟩
      · have hn := iff hne
        have hsl := nodup_sub ig.nd ig.sub
        obtain ⟨n', rfl⟩ : ∃ n', n = n' + 1 := ⟨n - 1, by omega⟩
        rw [runL_cons hne] at ir
        have hok : ∀ p ∈ layer, OkS L p.1 := fun p hp => mem_setsM.mp (ig.sub _ ((ig.sn p.1).mpr ⟨k, Nat.le_refl _, (ig.lay p.1).mp (List.mem_map.mpr ⟨p, hp, rfl⟩)⟩))
        have nx := ig.next (nbs_cl h)
        have hLs : (Ls ++ [layer]).length ≤ 400 := by
          have := congrArg List.length ir
          simp only [List.length_append, List.length_cons] at this
          simp only [List.length_append, List.length_cons, List.length_nil]
          omega
        have hmlen : st.length + 1 < m.length := (List.getElem?_eq_some_iff.mp ib).1
        have at0 : LvAt st (m ++ [⟨true, .dic (layK [])⟩]) m.length seen (Ls ++ [layer]) [] := ⟨get_app ia, get_app ib, get_end _ _, hmlen, by rw [take_app (by omega)]; exact it⟩
        obtain ⟨y5, y6, y7, y8, m1, f1, a1, o1, l1⟩ := lev_all h (s := s) hok at0 x5 x6 x7 x8
        obtain ⟨z5, m2, f2, b1, b2, b3, b4, b5⟩ := seen_all (s := s) (layer := layer) h o1 nx.nd (fun x hx => mem_setsM.mp (ig.sub x hx)) a1 y5 y6 y7 y8
        have b6 := gApp_h b2 b3 (by omega) (by rw [List.length_map]; omega)
        have ea : isLst m2 (st.length + 1) = true := isLst_at b2
        refine .inr ⟨⟨n', k + 1, seen ++ (nextL (nbs L) seen layer).map (·.1), Ls ++ [layer], nextL (nbs L) seen layer⟩, lvR L st s m.length z5 y6 y7 y8, (m2.set m.length ⟨false, .dic (layK (nextL (nbs L) seen layer))⟩).set (st.length + 1) ⟨true, .lst ((Ls ++ [layer]).map layD ++ [MC.data (.dic (layK (nextL (nbs L) seen layer)))])⟩, m, by rw [ec]; simp [hne], ?_, ⟨⟨_, _, _, _, _, rfl⟩, ?_, ?_, ?_, nx, ?_, ?_⟩, by show n' + 1 < n' + 1 + 1; omega⟩
        · show fBody _ m = _
          unfold fBody
          rw [sSeq_app, sSet_app, cDicH_app]
          show (match SR.nx (lvR L st s m.length x5 x6 x7 x8) (m ++ [⟨true, .dic (layK [])⟩]) with | .nx ρ' st' => sSeq _ _ ρ' st' | r => r) = _
          simp only [sSeq_app, f1, f2]
          simp [ea, b6]
        · exact get_set (get_set b1 (by omega)) (by omega)
        · have : MC.data (.dic (layK (nextL (nbs L) seen layer))) = layD (nextL (nbs L) seen layer) := kdata_dK keyRep_pr _ _
          rw [this, List.map_append (l₁ := Ls ++ [layer])]
          exact get_self (get_set b2 (by omega))
        · rw [take_set (by omega), take_set (by omega)]; exact b4
        · show (Ls ++ [layer]) ++ _ = _
          rw [List.append_assoc]; exact ir
        · intro hx
          have hx : nextL (nbs L) seen layer ≠ [] := hx
          have : 0 < (nextL (nbs L) seen layer).length := List.length_pos_iff.mpr hx
          show _ ≤ (seen ++ (nextL (nbs L) seen layer).map (·.1)).length + n'
          rw [List.length_append, List.length_map]; omega)
    FUEL ⟨400, 0, [s], [], [(s, 1)]⟩ [some (.d (iL L)), some (.d (prD s)), some (.h st.length), some (.h (st.length + 1)), none, none, none, none, none] ((st ++ [⟨true, .dic (seenK [s])⟩]) ++ [⟨true, .lst [layD [(s, 1)]]⟩]) (by show 401 < FUEL; unfold FUEL; omega)
    ⟨⟨_, _, _, _, _, rfl⟩, get_app (get_end _ _), by have := get_end (st ++ [⟨true, .dic (seenK [s])⟩]) ⟨true, .lst [layD [(s, 1)]]⟩; simpa using this, by rw [take_app (by simp), take_app (Nat.le_refl _), List.take_of_length_le (Nat.le_refl _)], StL.start (mem_setsM.mpr hs), rfl, fun _ => by have := setsM_len h; simp; omega⟩
  have q1 := dic1_h (x := prD s) (y := .bool true) (asKey_pr s) st
  have q2 := dic1_d (x := prD s) (y := .int 1) (asKey_pr s) (st ++ [⟨true, .dic [(prK s, .bool true)]⟩])
  have c3 : kdata [(prK s, PyData.int 1)] = layD [(s, 1)] := rfl
  rw [c3] at q2
  have e0 : sPar2 2 3 (aCons (cDic1 true (cVar 1) (cD (.bool true))) (aCons (cA gLstH (aCons (cDic1 false (cVar 1) (cD (.int 1))) (aNil))) (aNil))) [some (.d (iL L)), some (.d (prD s)), none, none, none, none, none, none, none] st
      = .nx [some (.d (iL L)), some (.d (prD s)), some (.h st.length), some (.h (st.length + 1)), none, none, none, none, none] ((st ++ [⟨true, .dic (seenK [s])⟩]) ++ [⟨true, .lst [layD [(s, 1)]]⟩]) := by
    have c4 : gLstH [W.d (layD [(s, 1)])] (st ++ [⟨true, .dic [(prK s, .bool true)]⟩]) = .ok (.h (st.length + 1)) ((st ++ [⟨true, .dic (seenK [s])⟩]) ++ [⟨true, .lst [layD [(s, 1)]]⟩]) := by
      unfold gLstH
      simp [seenK, seenM, dK]
    simp [q1, q2, c4]
  show finF st.length (b_layers_from [some (.d (iL L)), some (.d (prD s)), none, none, none, none, none, none, none] st) = _
  rw [b_layers_form]
  have e1 : der m' (.h (st.length + 1)) = some (.list ((layM L s ++ [[]]).map layD)) := by rw [der_h, hb]; rfl
  have e2 := fSl_init layD (layM L s) []
  have e3 : (sRet (cSl (cVar 3) pNone (pSome (c1 (g1 fNeg) (cD (.int 1)))))) [some (.d (iL L)), some (.d (prD s)), some (.h st.length), some (.h (st.length + 1)), x4, x5, x6, x7, x8] m' = .rt (.d (.list ((layM L s).map layD))) m' := by
    simp [g1, -der_h, e1, e2, -List.map_append]
  rw [seq_nx e0 (seq_nx (F := sWhile FUEL fCond fBody) e e3)]
  rw [finF_rt, ht]
end LK

namespace LK
open PySem Fx
theorem filter_enF {α : Type} {q : Int × α → Bool} : ∀ (xs : List α) (k n : Nat) (x : α), xs[n]? = some x → (∀ p ∈ enF k xs, q p = decide (p.1 = ((k + n : Nat) : Int))) → (enF k xs).filter q = [(((k + n : Nat) : Int), x)]
  | [], _, n, x, hx, _ => by simp at hx
  | y :: r, k, 0, x, hx, h => by
    cases hx
    unfold enF at h ⊢
    rw [List.filter_cons, h _ List.mem_cons_self]
    have e : (enF (k + 1) r).filter q = [] := List.filter_eq_nil_iff.mpr fun p hp => by
      rw [h p (List.mem_cons_of_mem _ hp)]
      obtain ⟨j, e, _⟩ := enF_at (k + 1) r p hp
      rw [e]; simp; omega
    rw [e]; simp
  | y :: r, k, n + 1, x, hx, h => by
    unfold enF at h ⊢
    rw [List.filter_cons, h _ List.mem_cons_self]
    have e := filter_enF (q := q) r (k + 1) n x (by simpa using hx) fun p hp => by
      rw [h p (List.mem_cons_of_mem _ hp), show k + 1 + n = k + (n + 1) by omega]
    rw [e, show k + 1 + n = k + (n + 1) by omega]
    simp; omega
theorem layM_at {L : List Int} (h : OkL L) {s g : Pr} (hs : OkS L s) (hg : OkS L g) : ∃ m, (layM L s)[dst L s g]? = some m ∧ g ∈ m.map (·.1) := by
  have hlt := layM_lt h hs hg
  have e := List.getElem?_eq_getElem hlt
  exact ⟨_, e, (((layM_spec h hs).1 _ _ e).2.2.2 g).mpr (dst_spec h hs hg)⟩
theorem layer_of_eq {L : List Int} (h : OkL L) {s g : Pr} (hs : OkS L s) (hg : OkS L g) (st : Sto) : d_layer_of [.d (.list ((layM L s).map layD)), .d (prD g)] st = .ok (.d (.int (dst L s g))) st := by
  have lM : (layM L s).length ≤ 400 := runL_len _ _ _
  have hz : (enF 0 (layM L s)).length ≤ sizeLine := small_le (by rw [enF_len]; omega)
  obtain ⟨m, em, _⟩ := layM_at h hs hg
  have e := lcF_filter (g := gT 2 (gsCons (gN 2) (gsCons (gN 3) gsNil))) (T := tB (c2 (g2 (fIn' false)) (cVar 1) (cVar 3))) (e := cVar 2) (ρ := [some (.d (.list ((layM L s).map layD))), some (.d (prD g)), none, none]) (st := st)
    (fun p : Int × List (Pr × Int) => .d (.tuple [.int p.1, layD p.2])) (fun p => decide (g ∈ p.2.map (·.1))) (fun p => .int p.1) (enF 0 (layM L s)) [] fun p hp => ⟨[some (.d (.list ((layM L s).map layD))), some (.d (prD g)), some (.d (.int p.1)), some (.d (layD p.2))], by simp, by simp [g2, fIn_dic keyRep_pr], fun _ => by simp⟩
  have e2 := filter_enF (q := fun p : Int × List (Pr × Int) => decide (g ∈ p.2.map (·.1))) (layM L s) 0 (dst L s g) m em fun p hp => by
    obtain ⟨j, e1, e2⟩ := enF_at 0 (layM L s) p hp
    have lay := ((layM_spec h hs).1 _ _ e2).2.2.2 g
    rw [e1, Nat.zero_add, Nat.zero_add]
    by_cases hj : j = dst L s g
    · subst hj
      simp [lay.mpr (dst_spec h hs hg)]
    · have : g ∉ p.2.map (·.1) := fun z => hj ((lay.mp z).uniq (dst_spec h hs hg))
      have hn : ¬ ((j : Int) = (dst L s g : Int)) := by omega
      simp only [this, hn]
  rw [e2] at e
  simp only [List.map_nil, List.nil_append, List.map_cons, Nat.zero_add] at e
  show finF st.length (b_layer_of [some (.d (.list ((layM L s).map layD))), some (.d (prD g)), none, none] st) = _
  simp [b_layer_of, g2, packE_map, hz, e]
end LK

namespace LK
open PySem Fx
theorem fewest_eq {L : List Int} (h : OkL L) {s g : Pr} (hs : OkS L s) (hg : OkS L g) (st : Sto) : d_fewest [.d (iL L), .d (prD s), .d (prD g)] st = .ok (.d (.int (dst L s g))) st := by
  simp [d_fewest, b_fewest, defF, need_pair_eq h hs hg, layers_from_eq h hs, layer_of_eq h hs hg]
end LK

namespace LK
open PySem Fx
theorem fIx_layM {L : List Int} {s : Pr} {n : Nat} {m : List (Pr × Int)} (h : (layM L s)[n]? = some m) : fIx (.list ((layM L s).map layD)) (.int n) = some (layD m) := by
  have hl := (List.getElem?_eq_some_iff.mp h).1
  show L2.atI _ _ = _
  rw [atI_map, atI_nn (by omega) (by omega), Int.toNat_natCast, h]; rfl
open Classical in
noncomputable def waysM (L : List Int) (s g : Pr) : Int := ((aget ((layM L s)[dst L s g]?.getD []) g)).getD 0
theorem ways_at {L : List Int} (h : OkL L) {s g : Pr} (hs : OkS L s) (hg : OkS L g) : ∃ m, (layM L s)[dst L s g]? = some m ∧ aget m g = some (waysM L s g) ∧ 1 ≤ waysM L s g := by
  obtain ⟨m, e, hm⟩ := layM_at h hs hg
  have sp := (layM_spec h hs).1 _ _ e
  obtain ⟨v, hv⟩ := Option.isSome_iff_exists.mp (aget_mem.mpr hm)
  have ew : waysM L s g = v := by unfold waysM; rw [e]; simp only [Option.getD_some]; rw [hv]; rfl
  rw [ew]
  exact ⟨m, e, hv, sp.2.2.1 _ (aget_some hv)⟩
theorem count_shortest_eq {L : List Int} (h : OkL L) {s g : Pr} (hs : OkS L s) (hg : OkS L g) (st : Sto) : d_count_shortest [.d (iL L), .d (prD s), .d (prD g)] st = .ok (.d (.int (waysM L s g))) st := by
  obtain ⟨m, e, hv, _⟩ := ways_at h hs hg
  have e1 := fIx_layM e
  have e2 : fIx (layD m) (prD g) = some (.int (waysM L s g)) := by rw [fIx_dic keyRep_pr, hv]; rfl
  show finF st.length (b_count_shortest [some (.d (iL L)), some (.d (prD s)), some (.d (prD g)), none] st) = _
  simp [b_count_shortest, g2, need_pair_eq h hs hg, layers_from_eq h hs, layer_of_eq h hs hg, e1, e2]
end LK

namespace LK
open PySem Fx
theorem runL_mlen {L : List Int} (h : OkL L) {s : Pr} (hs : OkS L s) {m : List (Pr × Int)} (hm : m ∈ layM L s) : m.length ≤ 372 := by
  obtain ⟨j, hj⟩ := List.mem_iff_getElem?.mp hm
  have sp := (layM_spec h hs).1 _ _ hj
  have := nodup_sub sp.2.1 (U := setsM L) fun x hx => by
    obtain ⟨S, _, e⟩ := rch_iff.mp ((sp.2.2.2 x).mp hx).1
    rw [← e]
    exact mem_setsM.mpr (run_ok h S hs)
  rw [List.length_map] at this
  exact Nat.le_trans this (setsM_len h)
theorem layM_oks {L : List Int} (h : OkL L) {s : Pr} (hs : OkS L s) {m : List (Pr × Int)} (hm : m ∈ layM L s) {x : Pr} (hx : x ∈ m.map (·.1)) : OkS L x := by
  obtain ⟨j, hj⟩ := List.mem_iff_getElem?.mp hm
  have sp := (layM_spec h hs).1 _ _ hj
  obtain ⟨S, _, e⟩ := rch_iff.mp ((sp.2.2.2 x).mp hx).1
  rw [← e]
  exact run_ok h S hs
theorem fLen_layD {m : List (Pr × Int)} (h : m.length ≤ 372) : fLen (layD m) = some (.int m.length) := by
  unfold layD dD fLen
  simp only [List.length_map]
  rw [if_pos (small_le (by omega))]
def levM (L : List Int) (s : Pr) : List Int := (layM L s).map fun m => (m.length : Int)
end LK

namespace LK
open PySem Fx
theorem fLenSet_iL {L : List Int} (h : L.length < 64) : fLenSet (iL L) = some (.int (usort ltI L).length) := by
  unfold fLenSet iL
  simp only [ints_map]
  rw [if_pos h]
theorem alike_of {L : List Int} (e : (usort ltI L).length = 1) : Alike L := by
  obtain ⟨a, ea⟩ := List.length_eq_one_iff.mp e
  intro x hx y hy
  have h1 := mem_usort (lt := ltI) (z := x) (l := L) |>.mpr hx
  have h2 := mem_usort (lt := ltI) (z := y) (l := L) |>.mpr hy
  rw [ea, List.mem_singleton] at h1 h2
  rw [h1, h2]
theorem usort_of {L : List Int} (hne : L ≠ []) (al : Alike L) : (usort ltI L).length = 1 := by
  have nd := strict_nodup lin_int (usort_sorted lin_int L)
  obtain ⟨a, ha⟩ := List.exists_mem_of_ne_nil L hne
  have e := len_eq_of_nodup nd (m := [a]) (by simp) fun x => by
    rw [mem_usort, List.mem_singleton]
    exact ⟨fun hx => al x hx a ha, fun e => e ▸ ha⟩
  simpa using e
end LK

namespace LK
open PySem Fx
/-! ### how many settings, how many on each level -/
theorem setsM_sum {L : List Int} (h : OkL L) : ((setsM L).length : Int) = L.sum := by
  have go : ∀ (M : List Int) (k : Nat), (∀ x ∈ M, 1 ≤ x) → (((enF k M).flatMap fun p => (rg p.2).map fun c => ((p.1, c) : Pr)).length : Int) = M.sum := by
    intro M
    induction M with
    | nil => intro k _; simp [enF]
    | cons x r ih =>
      intro k hm
      have a := hm x List.mem_cons_self
      have b := ih (k + 1) fun y hy => hm y (List.mem_cons_of_mem _ hy)
      unfold enF
      rw [List.flatMap_cons, List.length_append, List.length_map, rg_length, List.sum_cons]
      simp only
      push_cast
      rw [b]
      omega
  exact go L 0 fun x hx => (h.all x hx).1
theorem sum_lens : ∀ Ls : List (List (Pr × Int)), ((Ls.flatMap fun m => m.map (·.1)).length : Int) = (Ls.map fun m => (m.length : Int)).sum
  | [] => rfl
  | m :: r => by
    rw [List.flatMap_cons, List.length_append, List.length_map, List.map_cons, List.sum_cons, ← sum_lens r]
    push_cast; rfl
theorem levM_sum {L : List Int} (h : OkL L) {s : Pr} (hs : OkS L s) : (levM L s).sum = L.sum := by
  unfold levM
  rw [← sum_lens, ← setsM_sum h]
  congr 1
  refine len_eq_of_nodup ?_ (setsM_nodup L) fun x => ?_
  · unfold List.Nodup
    rw [List.pairwise_flatMap]
    refine ⟨fun m hm => ?_, ?_⟩
    · obtain ⟨j, hj, e⟩ := List.getElem_of_mem hm
      exact ((layM_spec h hs).1 j m (by rw [List.getElem?_eq_getElem hj, e])).2.1
    · rw [List.pairwise_iff_getElem]
      intro i j hi hj hij x hx y hy e
      subst e
      have a := (((layM_spec h hs).1 i _ (List.getElem?_eq_getElem hi)).2.2.2 x).mp hx
      have b := (((layM_spec h hs).1 j _ (List.getElem?_eq_getElem hj)).2.2.2 x).mp hy
      have := a.uniq b
      omega
  · rw [mem_setsM, List.mem_flatMap]
    constructor
    · rintro ⟨m, hm, hx⟩
      exact layM_oks h hs hm hx
    · intro hx
      obtain ⟨m, e, hm⟩ := layM_at h hs hx
      exact ⟨m, List.mem_of_getElem? e, hm⟩
/-! ### how far -/
theorem dst_le {L : List Int} (h : OkL L) {s g : Pr} (hs : OkS L s) (hg : OkS L g) : (dst L s g : Int) ≤ L.length / 2 + (gL L g.1 - 1) := by
  obtain ⟨n, hn, hb⟩ := reach_le h hs hg
  have := (dst_spec h hs hg).le hn
  omega
theorem layM_ne {L : List Int} (h : OkL L) {s : Pr} (hs : OkS L s) : 0 < (layM L s).length := by have := layM_lt h hs hs; omega
theorem far_le {L : List Int} (h : OkL L) {s : Pr} (hs : OkS L s) {M : Int} (hM : ∀ x ∈ L, x ≤ M) : ((layM L s).length : Int) - 1 ≤ L.length / 2 + (M - 1) := by
  have hl := layM_ne h hs
  have e := List.getElem?_eq_getElem (l := layM L s) (i := (layM L s).length - 1) (by omega)
  generalize (layM L s)[(layM L s).length - 1] = m at e
  have sp := (layM_spec h hs).1 _ _ e
  obtain ⟨x, m', rfl⟩ := List.exists_cons_of_ne_nil sp.1
  have hd := (sp.2.2.2 x.1).mp (List.mem_map.mpr ⟨x, List.mem_cons_self, rfl⟩)
  have ho := layM_oks h hs (List.mem_of_getElem? e) (List.mem_map.mpr ⟨x, List.mem_cons_self, rfl⟩)
  have a := dst_le h hs ho
  rw [dst_eq h hs ho hd] at a
  have b := hM _ (gL_mem ho.r0 ho.r1)
  omega
/-! ### rows -/
def cyc (n a b : Int) : Int := min (if a < b then b - a else a - b) (n - (if a < b then b - a else a - b))
theorem nxr_cyc {L : List Int} (h : OkL L) {a r : Int} (a0 : 0 ≤ a) (a1 : a < L.length) (r0 : 0 ≤ r) (r1 : r < L.length) (t : Tn) : cyc L.length a (nxr L r t) ≤ cyc L.length a r + 1 := by
  have hl := h.len
  have up : (r + 1) % (L.length : Int) = if r + 1 = L.length then 0 else r + 1 := by
    split
    · rename_i e; rw [e, Int.emod_self]
    · exact Int.emod_eq_of_lt (by omega) (by omega)
  have dn : (r - 1) % (L.length : Int) = if r = 0 then (L.length : Int) - 1 else r - 1 := by
    split
    · rename_i e; subst e
      rw [show (0 : Int) - 1 = ((L.length : Int) - 1) + L.length * (-1) by omega, Int.add_mul_emod_self_left, Int.emod_eq_of_lt (by omega) (by omega)]
    · exact Int.emod_eq_of_lt (by omega) (by omega)
  cases t
  · show cyc L.length a r ≤ _; omega
  · show cyc L.length a r ≤ _; omega
  · show cyc L.length a ((r + 1) % (L.length : Int)) ≤ _
    rw [up]
    unfold cyc
    split <;> (repeat' split) <;> omega
  · show cyc L.length a ((r - 1) % (L.length : Int)) ≤ _
    rw [dn]
    unfold cyc
    split <;> (repeat' split) <;> omega
theorem aft_row {L : List Int} (s : Pr) (t : Tn) : (aft L s t).1 = nxr L s.1 t := by cases t <;> rfl
theorem rch_cyc {L : List Int} (h : OkL L) {s : Pr} (hs : OkS L s) : ∀ {n : Nat} {g : Pr}, Rch (nbs L) n s g → OkS L g ∧ cyc L.length s.1 g.1 ≤ n
  | 0, g, e => by
    cases e
    refine ⟨hs, ?_⟩
    unfold cyc
    have := hs.r0
    have := h.len
    simp
    omega
  | n + 1, g, ⟨m, h1, h2⟩ => by
    obtain ⟨hm, hc⟩ := rch_cyc h hs h1
    obtain ⟨t, rfl⟩ := mem_nbs.mp h2
    refine ⟨aft_ok h hm t, ?_⟩
    rw [aft_row]
    have := nxr_cyc h hs.r0 hs.r1 hm.r0 hm.r1 t
    push_cast
    omega
theorem dst_cyc {L : List Int} (h : OkL L) {s g : Pr} (hs : OkS L s) (hg : OkS L g) : cyc L.length s.1 g.1 ≤ dst L s g := (rch_cyc h hs (dst_spec h hs hg).1).2
/-! ### the part of a shortest way -/
theorem dst_part {L : List Int} (h : OkL L) {s g : Pr} (hs : OkS L s) (hg : OkS L g) {S : List Tn} (hl : S.length = dst L s g) (he : S.foldl (aft L) s = g) {k : Nat} (hk : k ≤ S.length) : dst L s ((S.take k).foldl (aft L) s) = k := by
  have hm := run_ok h (S.take k) hs
  have a := (dst_spec h hs hm).le (rch_iff.mpr ⟨S.take k, rfl, rfl⟩)
  have e2 : (S.drop k).foldl (aft L) ((S.take k).foldl (aft L) s) = g := by rw [← List.foldl_append, List.take_append_drop]; exact he
  have b := (dst_spec h hm hg).le (rch_iff.mpr ⟨S.drop k, rfl, e2⟩)
  have c := dst_tri h hs hm hg
  rw [List.length_take] at a
  rw [List.length_drop] at b
  omega
/-! ### a fall -/
def falls (L : List Int) (r : Int) (t : Tn) : Bool := decide ((aft L (r, gL L r - 1) t).2 < gL L r - 1)
theorem ok_end {L : List Int} (h : OkL L) {r : Int} (r0 : 0 ≤ r) (r1 : r < L.length) : OkS L (r, gL L r - 1) := by
  have := h.at r0 r1
  exact ⟨r0, r1, by show 0 ≤ gL L r - 1; omega, by show gL L r - 1 < gL L r; omega⟩
theorem alike_falls {L : List Int} (h : OkL L) (al : Alike L) {r : Int} (r0 : 0 ≤ r) (r1 : r < L.length) {t : Tn} (ht : t.isC = false) : falls L r t = false := by
  have a := alike_safe h al (ok_end h r0 r1) t
  unfold safeT at a
  rw [ht, Bool.false_or, decide_eq_true_eq] at a
  unfold falls
  rw [a]
  simp
theorem none_alike {L : List Int} (h : OkL L) (hf : ∀ r : Int, 0 ≤ r → r < L.length → falls L r .rp = false) : Alike L := by
  have hl := h.len
  have stp : ∀ r : Int, 0 ≤ r → r < L.length → gL L r ≤ gL L ((r + 1) % L.length) := fun r r0 r1 => by
    have := hf r r0 r1
    unfold falls at this
    have e : (aft L (r, gL L r - 1) .rp).2 = min (gL L r - 1) (gL L ((r + 1) % L.length) - 1) := rfl
    rw [e] at this
    simp at this
    omega
  have up : ∀ k : Nat, (k : Int) < L.length → gL L 0 ≤ gL L k := by
    intro k
    induction k with
    | zero => intro _; exact Int.le_refl _
    | succ k ih =>
      intro hk
      push_cast at hk ⊢
      have a := ih (by omega)
      have b := stp k (by omega) (by omega)
      rw [Int.emod_eq_of_lt (by omega) hk] at b
      omega
  have dn : ∀ k : Nat, (k : Int) < L.length → gL L ((L.length : Int) - 1 - k) ≤ gL L 0 := by
    intro k
    induction k with
    | zero =>
      intro _
      have b := stp ((L.length : Int) - 1) (by omega) (by omega)
      rw [show (L.length : Int) - 1 + 1 = L.length by omega, Int.emod_self] at b
      simpa using b
    | succ k ih =>
      intro hk
      push_cast at hk ⊢
      have a := ih (by omega)
      have b := stp ((L.length : Int) - 1 - (k + 1)) (by omega) (by omega)
      rw [Int.emod_eq_of_lt (by omega) (by omega), show (L.length : Int) - 1 - (k + 1) + 1 = L.length - 1 - k by omega] at b
      omega
  have all : ∀ x ∈ L, x = gL L 0 := fun x hx => by
    obtain ⟨j, hj, rfl⟩ := List.getElem_of_mem hx
    have a := up j (by omega)
    have b := dn (L.length - 1 - j) (by omega)
    rw [show (L.length : Int) - 1 - ((L.length - 1 - j : Nat) : Int) = (j : Int) by omega] at b
    have e : gL L (j : Int) = L[j] := by unfold gL; rw [Int.toNat_natCast, List.getD_eq_getElem?_getD, List.getElem?_eq_getElem hj]; rfl
    omega
  exact fun x hx y hy => (all x hx).trans (all y hy).symm
theorem fall_dst {L : List Int} (h : OkL L) {a : Pr} (ha : OkS L a) {t : Tn} (ht : t.isC = false) (hf : (aft L a t).2 < a.2) : dst L a (aft L a t) = 1 ∧ 2 ≤ dst L (aft L a t) a := by
  have hb := aft_ok h ha t
  have ne : a ≠ aft L a t := fun e => by rw [← e] at hf; omega
  have c0 : dst L a (aft L a t) ≠ 0 := fun e => ne ((dst_zero h ha hb).mp e)
  have c1 : dst L (aft L a t) a ≠ 0 := fun e => ne ((dst_zero h hb ha).mp e).symm
  have d1 := (dst_spec h ha hb).le (Rch.one (mem_nbs.mpr ⟨t, rfl⟩))
  refine ⟨by omega, ?_⟩
  have c2 : dst L (aft L a t) a ≠ 1 := fun e => by
    have d := (dst_spec h hb ha).1
    rw [e] at d
    obtain ⟨m, rfl, hm⟩ := d
    obtain ⟨u, hu⟩ := mem_nbs.mp hm
    have hrow : nxr L a.1 t ≠ a.1 := fun er => by
      have e2 : (aft L a t).2 = min a.2 (gL L (nxr L a.1 t) - 1) := by cases t <;> first | rfl | cases ht
      rw [er] at e2
      have := ha.c1
      omega
    have h1 := congrArg Prod.fst hu
    have h2 := congrArg Prod.snd hu
    rw [aft_row, aft_row] at h1
    cases u
    · exact hrow h1
    · exact hrow h1
    · have : (aft L (aft L a t) .rp).2 ≤ (aft L a t).2 := Int.min_le_left _ _
      omega
    · have : (aft L (aft L a t) .rm).2 ≤ (aft L a t).2 := Int.min_le_left _ _
      omega
  omega
end LK

namespace LK
open PySem Fx
theorem is_turn_eq (t : Tn) (st : Sto) : d_is_turn [.d (tD t)] st = .ok (.d (.bool true)) st := by
  simp [d_is_turn, b_is_turn, defF, g1, g2, turns_in]
theorem is_script_eq (S : List Tn) (m : Int) (hm : S.length ≤ m) (hz : S.length ≤ 1000000) (st : Sto) : d_is_script [.d (scD S), .d (.int m)] st = .ok (.d (.bool true)) st := by
  have e : lcF (gN 2) tYesF (cA d_is_turn (aCons (cVar 2) aNil)) [some (.d (scD S)), some (.d (.int m)), none] (S.map fun x => .d (tD x)) [] st = .ok (.d (.list (S.map fun x => .bool true))) st :=
    lcF_map (fun x => .d (tD x)) (fun x => .bool true) S fun x hx => ⟨[some (.d (scD S)), some (.d (.int m)), some (.d (tD x))], by simp, by simp, by simp [is_turn_eq]⟩
  have e2 : (S.map tD).map W.d = S.map fun x => W.d (tD x) := by rw [List.map_map]; rfl
  have a : (S.all fun x => true) = true := by simp
  have f := fAll_map (fun _ : Tn => true) S
  rw [a] at f
  simp [d_is_script, b_is_script, defF, g1, g2, hm, small_le hz, e, e2, f]
theorem need_script_eq (S : List Tn) (hm : S.length ≤ 200) (st : Sto) : d_need_script [.d (scD S), .d (.int 200)] st = .ok (.d .none) st := by
  simp [d_need_script, b_need_script, defF, is_script_eq S 200 (by omega) (by omega)]
end LK

namespace LK
open PySem Fx
theorem need_turn_eq (t : Tn) (st : Sto) : d_need_turn [.d (tD t)] st = .ok (.d .none) st := by
  simp [d_need_turn, b_need_turn, defF, is_turn_eq]
end LK

namespace LK
open PySem Fx
theorem after_script_eq {L : List Int} (h : OkL L) {s : Pr} (hs : OkS L s) (S : List Tn) (st : Sto) : d_after_script [.d (iL L), .d (prD s), .d (scD S)] st = .ok (.d (prD (S.foldl (aft L) s))) st := by
  have e2 : (S.map tD).map W.d = S.map fun x => W.d (tD x) := by rw [List.map_map]; rfl
  have e := forF_fold (g := gN 3) (F := sSet 1 (cA d_after_turn (aCons (cVar 0) (aCons (cVar 1) (aCons (cVar 3) aNil))))) (fun t => W.d (tD t)) (fun p : Pr × Option W => [some (.d (iL L)), some (.d (prD p.1)), some (.d (scD S)), p.2]) (fun _ => st)
    (fun p t => (aft L p.1 t, some (.d (tD t)))) (fun p => OkS L p.1) S (s, none) hs fun t _ p hp => ⟨[some (.d (iL L)), some (.d (prD p.1)), some (.d (scD S)), some (.d (tD t))], by simp, by simp [after_turn_eq h hp], aft_ok h hp t⟩
  have f : ∀ (S : List Tn) (p : Pr × Option W), (S.foldl (fun p t => (aft L p.1 t, some (.d (tD t)))) p).1 = S.foldl (aft L) p.1 := by
    intro S
    induction S with
    | nil => intro p; rfl
    | cons t r ih => intro p; exact ih _
  have e := e.1
  simp only at e
  simp [d_after_script, b_after_script, defF, e, e2, f]
end LK

namespace LK
open PySem Fx
def monthsM : List Int := [31, 28, 31, 30, 31, 30, 31, 31, 30, 31, 30, 31]
theorem months_ok : OkL monthsM := ⟨by decide, by decide, by decide⟩
theorem month_lengths_eq (st : Sto) : d_month_lengths [.d (.bool false)] st = .ok (.d (iL monthsM)) st := by
  have e : isiB "bool" "bool" = true := by decide
  simp [d_month_lengths, b_month_lengths, defF, g1, fIsi, tyName, e, gSeq, monthsM]
end LK

namespace LK
open PySem Fx
def BagAt (st : Sto) (n : Nat) : Prop := ∃ (ds : List Int) (c : Int), st[n]? = some ⟨true, .lst [.list (ds.map .int), .int c]⟩ ∧ ds.length = 400
def Ev (st st' : Sto) : Prop := st'.length = st.length ∧ ∀ n, BagAt st n → BagAt st' n
theorem Ev.refl (st : Sto) : Ev st st := ⟨rfl, fun _ h => h⟩
theorem Ev.trans {a b c : Sto} (h : Ev a b) (k : Ev b c) : Ev a c := ⟨k.1.trans h.1, fun n q => k.2 n (h.2 n q)⟩
theorem atI_ints {ds : List Int} {i : Int} (h0 : 0 ≤ i) (h1 : i < ds.length) : ∃ v, fIx (.list (ds.map .int)) (.int i) = some (.int v) := by
  refine ⟨ds[i.toNat]'(by omega), ?_⟩
  show L2.atI _ _ = _
  rw [atI_map, atI_nn h0 h1, List.getElem?_eq_getElem (by omega)]; rfl
theorem take_eq {st : Sto} {n : Nat} (hb : BagAt st n) {m : Int} (hm : 0 < m) : ∃ v st', d__law_take [.h n, .d (.int m)] st = .ok (.d (.int v)) st' ∧ 0 ≤ v ∧ v < m ∧ Ev st st' := by
  obtain ⟨ds, c, hs, hl⟩ := hb
  have hn : n < st.length := (List.getElem?_eq_some_iff.mp hs).1
  obtain ⟨v, hv⟩ := atI_ints (ds := ds) (i := (c + 1) % (ds.length : Int)) (Int.emod_nonneg _ (by omega)) (Int.emod_lt_of_pos _ (by omega))
  have hs' : (st.set n ⟨true, .lst [.list (ds.map .int), .int (c + 1)]⟩)[n]? = some ⟨true, .lst [.list (ds.map .int), .int (c + 1)]⟩ := List.getElem?_set_self hn
  refine ⟨v % m, st.set n ⟨true, .lst [.list (ds.map .int), .int (c + 1)]⟩, ?_, Int.emod_nonneg _ (by omega), Int.emod_lt_of_pos _ hm, by simp, fun k hk => ?_⟩
  · have e2 := fun i => fMod_int (i := i) (j := (ds.length : Int)) (by omega)
    have e3 := fMod_int (i := v) hm
    have ep : gPut (.h n) (.d (.int 1)) (.d (.int (c + 1))) st = some (st.set n ⟨true, .lst [.list (ds.map .int), .int (c + 1)]⟩) := by
      simp [gPut, put1, liveL, hs, L2.ixN]
    simp [d__law_take, b__law_take, defF, g2, g1, hs, hs', MC.data, e2, e3, hv, sPut, ep]
    exact List.take_of_length_le (by simp)
  · by_cases e : n = k
    · subst e
      exact ⟨ds, c + 1, hs', hl⟩
    · obtain ⟨ds', c', h1, h2⟩ := hk
      exact ⟨ds', c', by rw [List.getElem?_set_ne e]; exact h1, h2⟩
theorem cell_at_eq (ns : List Int) {k : Int} (h : 0 ≤ k) (st : Sto) : ∃ c : Int, d__law_cell_at [.d (.list (ns.map .int)), .d (.int k)] st = .ok (.d (.int c)) st := by
  by_cases hk : k < ns.length
  · obtain ⟨v, hv⟩ := atI_ints h hk
    exact ⟨v, by simp [d__law_cell_at, b__law_cell_at, defF, g1, g2, hk, hv]⟩
  · exact ⟨0, by simp [d__law_cell_at, b__law_cell_at, defF, g1, g2, hk]⟩
theorem small64_of {i : Int} (h0 : 0 ≤ i) (h1 : i < 2305843009213693951) : small64 i := by unfold small64; omega
theorem fMul_int {i j : Int} (h : small64 i ∨ small64 j) : fMul (.int i) (.int j) = some (.int (i * j)) := by
  show (if small64 i ∨ small64 j then some (PyData.int (i * j)) else none) = _
  rw [if_pos h]
theorem fDiv_int {i j : Int} (h : 0 < j) (h1 : j < 1073741824) : fDiv (.int i) (.int j) = some (.int (i / j)) := by
  show (if 0 < j ∧ j < 1073741824 then some (PyData.int (i / j)) else none) = _
  rw [if_pos ⟨h, h1⟩]
theorem pow18 : fPow (.int 10) (.int 18) = some (.int (10 ^ 18)) := by
  show (if (0 : Int) ≤ 18 ∧ (18 : Int) ≤ 1000000 ∧ (10 : Int).natAbs < 2 ^ 64 then some (PyData.int (10 ^ (18 : Int).toNat)) else none) = _
  rw [if_pos ⟨by decide, by decide, by decide⟩]; rfl
def big3 (xs : List Int) : Nat := (xs.filter fun k => decide (2 < k)).length
theorem draws_eq (c : Int) (st : Sto) : ∃ ds : List Int, ds.length = 400 ∧ d__law_draws [.d (.int c), .d (.int 400), .d (.int 1000)] st = .ok (.d (.list (ds.map .int))) st := by
  have hr : gRange1 [W.d (.int 403)] (st ++ [⟨true, .lst []⟩]) = .ok ((rg 403).map fun i => .d (.int i)) (st ++ [⟨true, .lst []⟩]) := gRange1_eq (by decide) (by decide) _
  obtain ⟨b, hb⟩ : ∃ b : Int, small64 b ∧ fInt (.bool (pGe c 1000000000000000000)) = some (.int b) := by
    cases pGe c 1000000000000000000
    · exact ⟨0, by unfold small64; omega, rfl⟩
    · exact ⟨1, by unfold small64; omega, rfl⟩
  obtain ⟨hb1, hb2⟩ := hb
  have e0 := fMul_int (i := c) (j := b) (.inr hb1)
  have m0 := fun i => fMod_int (i := i) (j := 2305843009213693951) (by decide)
  have m1 := fun i => fMod_int (i := i) (j := 1000) (by decide)
  have v1 := fun i => fDiv_int (i := i) (j := 1000) (by decide) (by decide)
  have v2 := fun i => fDiv_int (i := i) (j := 4096) (by decide) (by decide)
  have k0 : ∀ i, fMul (.int 48271) (.int i) = some (.int (48271 * i)) := fun i => fMul_int (.inl (by unfold small64; omega))
  have loop := forF_inv (g := gN 6) (F := sSeq (sSet 5 (c2 (g2 fMod) (c2 (g2 fAdd) (c2 (g2 fAdd) (c2 (g2 fAdd) (c2 (g2 fMul) (cVar 5) (cVar 5)) (c2 (g2 fMul) (cD (.int 48271)) (cVar 5))) (cVar 6)) (cD (.int 1))) (cD (.int 2305843009213693951))))
      (sIf (tAndF (tB (c2 (g2 (fCmpI pGt)) (cVar 6) (cD (.int 2)))) (tB (c2 (g2 (fCmpI pGt)) (cVar 4) (cD (.int 0))))) (sSeq (sExpr (cApp (cVar 3) (c2 (g2 fMod) (cVar 4) (cVar 2))))
      (sSet 4 (c2 (g2 fDiv) (cVar 4) (cVar 2)))) (sIf (tB (c2 (g2 (fCmpI pGt)) (cVar 6) (cD (.int 2)))) (sExpr (cApp (cVar 3) (c2 (g2 fMod) (c2 (g2 fDiv) (cVar 5) (cD (.int 4096))) (cVar 2)))) sNx)))
    (fun k : Int => .d (.int k)) (fun xs ρ s => ∃ (acc : List Int) (q z : Int) (w : Option W), ρ = [some (.d (.int c)), some (.d (.int 400)), some (.d (.int 1000)), some (.h st.length), some (.d (.int q)), some (.d (.int z)), w] ∧ s = st ++ [⟨true, .lst (acc.map .int)⟩] ∧ acc.length + big3 xs = 400 ∧ 0 ≤ z ∧ z < 2305843009213693951)
    (rg 403) (ρ := [some (.d (.int c)), some (.d (.int 400)), some (.d (.int 1000)), some (.h st.length), some (.d (.int (c * b))), some (.d (.int (c % 2305843009213693951))), none]) (st := st ++ [⟨true, .lst []⟩])
    ⟨[], _, _, none, rfl, rfl, by decide +kernel, Int.emod_nonneg _ (by decide), Int.emod_lt_of_pos _ (by decide)⟩
    fun k r ρ s ⟨acc, q, z, w, e1, e2, hl, z0, z1⟩ => by
      subst e1 e2
      have z2 : (0 : Int) ≤ (z * z + 48271 * z + k + 1) % 2305843009213693951 := Int.emod_nonneg _ (by decide)
      have z3 : (z * z + 48271 * z + k + 1) % 2305843009213693951 < 2305843009213693951 := Int.emod_lt_of_pos _ (by decide)
      have k1 := fMul_int (i := z) (j := z) (.inl (small64_of z0 z1))
      have ha : (acc.map PyData.int).length < sizeLine := by rw [List.length_map]; have := small_le (n := 1000000) (Nat.le_refl _); omega
      have ap := fun x => gApp_end st (acc.map .int) x ha
      by_cases hk : 2 < k
      · have hl' : acc.length + 1 + big3 r = 400 := by unfold big3 at hl ⊢; simp [hk] at hl; omega
        by_cases hq : 0 < q
        · exact ⟨[some (.d (.int c)), some (.d (.int 400)), some (.d (.int 1000)), some (.h st.length), some (.d (.int (q))), some (.d (.int (z))), some (.d (.int k))], [some (.d (.int c)), some (.d (.int 400)), some (.d (.int 1000)), some (.h st.length), some (.d (.int (q / 1000))), some (.d (.int (((z * z + 48271 * z + k + 1) % 2305843009213693951)))), some (.d (.int k))], st ++ [⟨true, .lst ((acc ++ [q % 1000]).map .int)⟩], rfl, by simp [g1, g2, k0, k1, m0, m1, v1, v2, hk, hq, isLst_end, ap], acc ++ [q % 1000], q / 1000, _, _, rfl, by simp, by simpa using hl', z2, z3⟩
        · exact ⟨[some (.d (.int c)), some (.d (.int 400)), some (.d (.int 1000)), some (.h st.length), some (.d (.int (q))), some (.d (.int (z))), some (.d (.int k))], [some (.d (.int c)), some (.d (.int 400)), some (.d (.int 1000)), some (.h st.length), some (.d (.int (q))), some (.d (.int (((z * z + 48271 * z + k + 1) % 2305843009213693951)))), some (.d (.int k))], st ++ [⟨true, .lst ((acc ++ [((z * z + 48271 * z + k + 1) % 2305843009213693951) / 4096 % 1000]).map .int)⟩], rfl, by simp [g1, g2, k0, k1, m0, m1, v1, v2, hk, hq, isLst_end, ap], acc ++ [((z * z + 48271 * z + k + 1) % 2305843009213693951) / 4096 % 1000], q, _, _, rfl, by simp, by simpa using hl', z2, z3⟩
      · have hl' : acc.length + big3 r = 400 := by unfold big3 at hl ⊢; simp [hk] at hl; omega
        exact ⟨[some (.d (.int c)), some (.d (.int 400)), some (.d (.int 1000)), some (.h st.length), some (.d (.int (q))), some (.d (.int (z))), some (.d (.int k))], [some (.d (.int c)), some (.d (.int 400)), some (.d (.int 1000)), some (.h st.length), some (.d (.int (q))), some (.d (.int (((z * z + 48271 * z + k + 1) % 2305843009213693951)))), some (.d (.int k))], st ++ [⟨true, .lst ((acc).map .int)⟩], rfl, by simp [g1, g2, k0, k1, m0, m1, v1, v2, hk], acc, q, _, _, rfl, rfl, hl', z2, z3⟩
  obtain ⟨ρ', s', e1, acc, q, z, w, rfl, rfl, hl, _, _⟩ := loop
  refine ⟨acc, by simpa [big3] using hl, ?_⟩
  simp [d__law_draws, b__law_draws, defF, g1, g2, hr, hb2, e0, m0, pow18, e1, finF_end]
theorem BagAt.app {st : Sto} {n : Nat} (h : BagAt st n) (x : Sto) : BagAt (st ++ x) n := by
  obtain ⟨ds, c, h1, h2⟩ := h
  exact ⟨ds, c, by rw [List.getElem?_append_left (List.getElem?_eq_some_iff.mp h1).1]; exact h1, h2⟩
theorem bag_eq (ns : List Int) {k : Int} (h : 0 ≤ k) (st : Sto) : ∃ m, d__law_bag [.d (.list (ns.map .int)), .d (.int k)] st = .ok (.h st.length) (st ++ [m]) ∧ BagAt (st ++ [m]) st.length := by
  obtain ⟨c, hc⟩ := cell_at_eq ns h st
  obtain ⟨ds, hl, hd⟩ := draws_eq c st
  refine ⟨⟨true, .lst [.list (ds.map .int), .int 0]⟩, ?_, ds, 0, by simp, hl⟩
  simp [d__law_bag, b__law_bag, defFH, hc, hd, gLstH]
theorem packW_h (n : Nat) (r : List Nat) : packW ((n :: r).map .h) = some (.hs (n :: r)) := by
  have e : ∀ ns : List Nat, handles (ns.map .h) = some ns := by
    intro ns
    induction ns with
    | nil => rfl
    | cons a t ih => rw [List.map_cons]; unfold handles; rw [ih]; rfl
  show (match datas ((n :: r).map W.h) with | some xs => some (W.d (.list xs)) | none => (handles ((n :: r).map .h)).map .hs) = _
  rw [e]; rfl
theorem bags_lc (ns : List Int) (l : PyData) : ∀ (xs : List Int) (acc : List Nat) (st : Sto), (∀ x ∈ xs, 0 ≤ x) → acc ++ xs.map Int.toNat ≠ [] → (∀ n ∈ acc, BagAt st n) →
    ∃ hs st', lcF (gN 2) tYesF (cA d__law_bag (aCons (cVar 0) (aCons (cVar 2) aNil))) [some (.d (.list (ns.map .int))), some (.d l), none] (xs.map fun i => .d (.int i)) (acc.map .h) st = .ok (.hs hs) st' ∧ ∀ n ∈ hs, BagAt st' n
  | [], acc, st, _, ne, hb => by
    cases acc with
    | nil => exact absurd rfl ne
    | cons n r => exact ⟨n :: r, st, by rw [List.map_nil, lcF_nil, packW_h], hb⟩
  | x :: r, acc, st, h0, ne, hb => by
    obtain ⟨m, e, b⟩ := bag_eq ns (h0 x List.mem_cons_self) st
    obtain ⟨hs, st', e2, h2⟩ := bags_lc ns l r (acc ++ [st.length]) (st ++ [m]) (fun y hy => h0 y (List.mem_cons_of_mem _ hy)) (by simp) (fun n hn => by
      rcases List.mem_append.mp hn with hn | hn
      · exact (hb n hn).app _
      · rw [List.mem_singleton] at hn; subst hn; exact b)
    refine ⟨hs, st', ?_, h2⟩
    rw [List.map_append] at e2
    rw [List.map_cons, lcF_cons]
    simp [e]
    exact e2
theorem bags_eq (ns : List Int) (hl : ns.length ≤ 63) {k : Int} (h : 1 ≤ k) (st : Sto) : ∃ hs st', d__law_bags [.d (.list (ns.map .int)), .d (.int k)] st = .ok (.hs hs) st' ∧ ∀ n ∈ hs, BagAt st' n := by
  have hr := gRange1_eq (n := max 1 (min k (ns.length : Int))) (by omega) (by omega) st
  have hp : ∃ t, rg (max 1 (min k (ns.length : Int))) = 0 :: t := rg_pos (by omega)
  obtain ⟨hs, st', e, h2⟩ := bags_lc ns (.int k) (rg (max 1 (min k (ns.length : Int)))) [] st (fun x hx => (mem_rg.mp hx).1) (by obtain ⟨t, e⟩ := hp; rw [e]; simp) (fun n hn => (List.not_mem_nil hn).elim)
  have hz : (rg (max 1 (min k (ns.length : Int)))).length ≤ sizeLine := small_le (by rw [rg_length]; omega)
  rw [List.map_nil] at e
  exact ⟨hs, st', by simp [d__law_bags, b__law_bags, defFH, g1, g2, hr, hz, e], h2⟩
end LK

namespace LK
open PySem Fx
theorem ixInts {ds : List Int} {i : Int} (h0 : 0 ≤ i) (h1 : i < ds.length) : ∃ v ∈ ds, fIx (.list (ds.map .int)) (.int i) = some (.int v) := by
  refine ⟨ds[i.toNat]'(by omega), List.getElem_mem _, ?_⟩
  show L2.atI _ _ = _
  rw [atI_map, atI_nn h0 h1, List.getElem?_eq_getElem (by omega)]; rfl
theorem Ev.take {st st' : Sto} (e : Ev st st') : st'.take st.length = st' := List.take_of_length_le (by rw [e.1]; exact Nat.le_refl _)
theorem iL_add (L : List Int) (v : Int) (h : L.length ≤ 1000) : fAdd (iL L) (.tuple [.int v]) = some (iL (L ++ [v])) := by
  unfold iL; rw [fAdd_tup (by simp; omega)]; simp
theorem lengths_eq {st : Sto} {n : Nat} (hb : BagAt st n) {rows most : Int} (hr : 1 ≤ rows) (hr2 : rows ≤ 12) (hm : 1 ≤ most) (hm2 : most ≤ 31) : ∃ L st', d__law_lengths [.h n, .d (.int rows), .d (.int most)] st = .ok (.d (iL L)) st' ∧ OkL L ∧ (L.length : Int) ≤ rows ∧ (∀ x ∈ L, x ≤ most) ∧ Ev st st' := by
  obtain ⟨b0, s1, e1, b1, b2, v1⟩ := take_eq hb (m := most) (by omega)
  obtain ⟨way, s2, e2, w1, w2, v2⟩ := take_eq (v1.2 n hb) (m := 4) (by decide)
  have v12 := v1.trans v2
  obtain ⟨k0, s3, e3, k1, k2, v3⟩ := take_eq (v12.2 n hb) (m := rows) (by omega)
  have v13 := v12.trans v3
  have hg := fun s => gRange1_eq (n := 1 + k0) (by omega) (by omega) s
  have loop := forF_inv (g := gN 6) (F := sSeq (sSet 7 (cA (gA2 fMax2) (aCons (cD (.int 1)) (aCons (cA (gA2 fMin2) (aCons (cVar 2) (aCons (c2 (g2 fSub) (c2 (g2 fAdd) (cVar 3) (cA d__law_take (aCons (cVar 0) (aCons (cD (.int 3)) aNil)))) (cD (.int 1))) aNil))) aNil))))
      (sSeq (sSet 8 (c2 (g2 fAdd) (cD (.int 1)) (cA d__law_take (aCons (cVar 0) (aCons (cVar 2) aNil)))))
      (sSet 5 (c2 (g2 fAdd) (cVar 5) (cA (gSeq .tuple) (aCons (c2 (g2 fIx) (cA (gSeq .list) (aCons (cVar 8) (aCons (cVar 7) (aCons (cVar 8) (aCons (cVar 3) aNil))))) (cVar 4)) aNil))))))
    (fun k : Int => .d (.int k)) (fun xs ρ s => ∃ (L : List Int) (w x y : Option W), ρ = [some (.h n), some (.d (.int rows)), some (.d (.int most)), some (.d (.int (1 + b0))), some (.d (.int way)), some (.d (iL L)), w, x, y] ∧ Ev st s ∧ (∀ x ∈ L, 1 ≤ x ∧ x ≤ most) ∧ L.length + xs.length = (1 + k0).toNat)
    (rg (1 + k0)) (ρ := [some (.h n), some (.d (.int rows)), some (.d (.int most)), some (.d (.int (1 + b0))), some (.d (.int way)), some (.d (iL [])), none, none, none]) (st := s3)
    ⟨[], none, none, none, rfl, v13, fun x hx => (List.not_mem_nil hx).elim, by rw [rg_length]; simp⟩
    fun k r ρ s ⟨L, w, x, y, e, ev, hL, hl⟩ => by
      subst e
      obtain ⟨a, t1, f1, a1, a2, u1⟩ := take_eq (ev.2 n hb) (m := 3) (by decide)
      obtain ⟨c, t2, f2, c1, c2, u2⟩ := take_eq (u1.2 n (ev.2 n hb)) (m := most) (by omega)
      obtain ⟨v, hv, f3⟩ := ixInts (ds := [1 + c, max 1 (min most (1 + b0 + a - 1)), 1 + c, 1 + b0]) (i := way) w1 (by simpa using w2)
      have hv2 : 1 ≤ v ∧ v ≤ most := by
        simp only [List.mem_cons, List.not_mem_nil, or_false] at hv
        rcases hv with rfl | rfl | rfl | rfl <;> omega
      have hlen : L.length ≤ 1000 := by simp only [List.length_cons] at hl; omega
      have f4 := iL_add L v hlen
      simp only [List.map_cons, List.map_nil] at f3
      refine ⟨[some (.h n), some (.d (.int rows)), some (.d (.int most)), some (.d (.int (1 + b0))), some (.d (.int way)), some (.d (iL L)), some (.d (.int k)), x, y],
        [some (.h n), some (.d (.int rows)), some (.d (.int most)), some (.d (.int (1 + b0))), some (.d (.int way)), some (.d (iL (L ++ [v]))), some (.d (.int k)), some (.d (.int (max 1 (min most (1 + b0 + a - 1))))), some (.d (.int (1 + c)))], t2, rfl, by simp [g1, g2, gSeq, f1, f2, f3, f4], L ++ [v], _, _, _, rfl, ev.trans (u1.trans u2), fun z hz => ?_, by simp only [List.length_cons] at hl; simp; omega⟩
      rcases List.mem_append.mp hz with hz | hz
      · exact hL z hz
      · rw [List.mem_singleton] at hz; subst hz; exact hv2
  obtain ⟨ρ', s', e4, L, w, x, y, rfl, ev, hL, hl⟩ := loop
  simp only [List.length_nil, Nat.add_zero] at hl
  refine ⟨L, s', ?_, ⟨by omega, by omega, fun x hx => ⟨(hL x hx).1, Int.le_trans (hL x hx).2 hm2⟩⟩, by omega, fun x hx => (hL x hx).2, ev⟩
  have e5 : (iL [] : PyData) = .tuple [] := rfl
  rw [e5] at e4
  simp [d__law_lengths, b__law_lengths, defF, g1, g2, gSeq, e1, e2, e3, hg, e4, ev.take]
end LK

namespace LK
open PySem Fx
theorem start_eq {st : Sto} {n : Nat} (hb : BagAt st n) {L : List Int} (h : OkL L) : ∃ s st', d__law_start [.h n, .d (iL L)] st = .ok (.d (prD s)) st' ∧ OkS L s ∧ Ev st st' := by
  obtain ⟨r, s1, e1, r0, r1, v1⟩ := take_eq hb (m := (L.length : Int)) h.len
  have a := h.at r0 r1
  obtain ⟨c, s2, e2, c0, c1, v2⟩ := take_eq (v1.2 n hb) (m := gL L r) (by omega)
  have v12 := v1.trans v2
  obtain ⟨k, s3, e3, k0, k1, v3⟩ := take_eq (v12.2 n hb) (m := 3) (by decide)
  have f1 := fIx_iL r0 r1
  have f2 := fDiv_int (i := k) (j := 2) (by decide) (by decide)
  have f3 : k / 2 = 0 ∨ k / 2 = 1 := by omega
  rcases f3 with f3 | f3
  · refine ⟨(r, c), s3, ?_, ⟨r0, r1, c0, c1⟩, v12.trans v3⟩
    simp [d__law_start, b__law_start, defF, g1, g2, gSeq, e1, e2, e3, f1, f2, f3, prD, (v12.trans v3).take]
  · refine ⟨(r, gL L r - 1), s3, ?_, ⟨r0, r1, by show 0 ≤ gL L r - 1; omega, by show gL L r - 1 < gL L r; omega⟩, v12.trans v3⟩
    simp [d__law_start, b__law_start, defF, g1, g2, gSeq, e1, e2, e3, f1, f2, f3, prD, (v12.trans v3).take]
end LK

namespace LK
open PySem Fx
theorem mod_up {c n : Int} (h0 : 0 ≤ c) (h1 : c < n) : (c + 1) % n = if n ≤ c + 1 then c + 1 - n else c + 1 := by
  split
  · have : c + 1 = n := by omega
    rw [this, Int.emod_self]; omega
  · exact Int.emod_eq_of_lt (by omega) (by omega)
theorem mod_dn {c n : Int} (h0 : 0 ≤ c) (h1 : c < n) : (c - 1) % n = if n ≤ c + (n - 1) then c + (n - 1) - n else c + (n - 1) := by
  split
  · rw [Int.emod_eq_of_lt (by omega) (by omega)]; omega
  · have : c = 0 := by omega
    subst this
    rw [← Int.add_emod_right, Int.emod_eq_of_lt (by omega) (by omega)]; omega
theorem min_if (c n : Int) : min c (n - 1) = if c < n then c else n - 1 := by split <;> omega
theorem law_after_eq {L : List Int} (h : OkL L) {s : Pr} (hs : OkS L s) (t : Tn) (st : Sto) : d__law_after [.d (iL L), .d (prD s), .d (tD t)] st = .ok (.d (prD (aft L s t))) st := by
  have a := h.at hs.r0 hs.r1
  have b := nxr_ok h hs.r0 hs.r1 t
  have e1 := fIx_iL hs.r0 hs.r1
  have e2 := fIx_iL b.1 b.2
  have r0 := hs.r0
  have r1 := hs.r1
  have rlen := rep_int.eq (by decide)
  cases t with
  | cp =>
    have m := mod_up hs.c0 hs.c1
    by_cases hc : gL L s.1 ≤ s.2 + 1
    · rw [if_pos hc] at m
      simp [d__law_after, b__law_after, defF, g1, g2, prD, aft, e1, Tn.isC, hc, m, gSeq]
    · rw [if_neg hc] at m
      simp [d__law_after, b__law_after, defF, g1, g2, prD, aft, e1, Tn.isC, hc, m, gSeq]
  | cm =>
    have m := mod_dn hs.c0 hs.c1
    by_cases hc : gL L s.1 ≤ s.2 + (gL L s.1 - 1)
    · rw [if_pos hc] at m
      simp [d__law_after, b__law_after, defF, g1, g2, prD, aft, e1, Tn.isC, hc, m, gSeq]
    · rw [if_neg hc] at m
      simp [d__law_after, b__law_after, defF, g1, g2, prD, aft, e1, Tn.isC, hc, m, gSeq]
  | rp =>
    have e3 : nxr L s.1 .rp = if (L.length : Int) ≤ s.1 + 1 then s.1 + 1 - L.length else s.1 + 1 := mod_up hs.r0 hs.r1
    have mi := min_if s.2 (gL L (nxr L s.1 .rp))
    by_cases hr : s.1 + 1 = L.length
    · have e4 : nxr L s.1 .rp = 0 := by rw [e3, if_pos (by omega)]; omega
      rw [e4] at e2 mi
      by_cases hc : s.2 < gL L 0
      · rw [if_pos hc] at mi
        simp [d__law_after, b__law_after, defF, g1, g2, prD, aft, e2, Tn.isC, rlen, hr, hc, mi, e4, gSeq]
      · rw [if_neg hc] at mi
        simp [d__law_after, b__law_after, defF, g1, g2, prD, aft, e2, Tn.isC, rlen, hr, hc, mi, e4, gSeq]
    · have e4 : nxr L s.1 .rp = s.1 + 1 := by rw [e3, if_neg (by omega)]
      rw [e4] at e2 mi
      have hn : ¬ s.1 + 1 < 0 := by omega
      by_cases hc : s.2 < gL L (s.1 + 1)
      · rw [if_pos hc] at mi
        simp [d__law_after, b__law_after, defF, g1, g2, prD, aft, e2, Tn.isC, rlen, hr, hn, hc, mi, e4, gSeq]
      · rw [if_neg hc] at mi
        simp [d__law_after, b__law_after, defF, g1, g2, prD, aft, e2, Tn.isC, rlen, hr, hn, hc, mi, e4, gSeq]
  | rm =>
    have e3 : nxr L s.1 .rm = if (L.length : Int) ≤ s.1 + (L.length - 1) then s.1 + (L.length - 1) - L.length else s.1 + (L.length - 1) := mod_dn hs.r0 hs.r1
    have mi := min_if s.2 (gL L (nxr L s.1 .rm))
    have hr : ¬ s.1 - 1 = L.length := by omega
    by_cases hn : s.1 - 1 < 0
    · have e4 : nxr L s.1 .rm = L.length - 1 := by rw [e3, if_neg (by omega)]; omega
      rw [e4] at e2 mi
      by_cases hc : s.2 < gL L (L.length - 1)
      · rw [if_pos hc] at mi
        simp [d__law_after, b__law_after, defF, g1, g2, prD, aft, e2, Tn.isC, rlen, hr, hn, hc, mi, e4, gSeq]
      · rw [if_neg hc] at mi
        simp [d__law_after, b__law_after, defF, g1, g2, prD, aft, e2, Tn.isC, rlen, hr, hn, hc, mi, e4, gSeq]
    · have e4 : nxr L s.1 .rm = s.1 - 1 := by rw [e3, if_pos (by omega)]; omega
      rw [e4] at e2 mi
      by_cases hc : s.2 < gL L (s.1 - 1)
      · rw [if_pos hc] at mi
        simp [d__law_after, b__law_after, defF, g1, g2, prD, aft, e2, Tn.isC, rlen, hr, hn, hc, mi, e4, gSeq]
      · rw [if_neg hc] at mi
        simp [d__law_after, b__law_after, defF, g1, g2, prD, aft, e2, Tn.isC, rlen, hr, hn, hc, mi, e4, gSeq]
end LK

namespace LK
open PySem Fx
theorem law_run_eq {L : List Int} (h : OkL L) {s : Pr} (hs : OkS L s) (S : List Tn) (st : Sto) : d__law_run [.d (iL L), .d (prD s), .d (scD S)] st = .ok (.d (prD (S.foldl (aft L) s))) st := by
  have e2 : (S.map tD).map W.d = S.map fun x => W.d (tD x) := by rw [List.map_map]; rfl
  have e := forF_fold (g := gN 3) (F := sSet 1 (cA d__law_after (aCons (cVar 0) (aCons (cVar 1) (aCons (cVar 3) aNil))))) (fun t => W.d (tD t)) (fun p : Pr × Option W => [some (.d (iL L)), some (.d (prD p.1)), some (.d (scD S)), p.2]) (fun _ => st)
    (fun p t => (aft L p.1 t, some (.d (tD t)))) (fun p => OkS L p.1) S (s, none) hs fun t _ p hp => ⟨[some (.d (iL L)), some (.d (prD p.1)), some (.d (scD S)), some (.d (tD t))], by simp, by simp [law_after_eq h hp], aft_ok h hp t⟩
  have f : ∀ (S : List Tn) (p : Pr × Option W), (S.foldl (fun p t => (aft L p.1 t, some (.d (tD t)))) p).1 = S.foldl (aft L) p.1 := by
    intro S
    induction S with
    | nil => intro p; rfl
    | cons t r ih => intro p; exact ih _
  have e := e.1
  simp only at e
  simp [d__law_run, b__law_run, defF, e, e2, f]
end LK

namespace LK
open PySem Fx
@[simp] theorem fSumA_tup (ds : List PyData) : fSumA (.tuple ds) = fSum (.list ds) := rfl
@[simp] theorem fSumA_lst (ds : List PyData) : fSumA (.list ds) = fSum (.list ds) := rfl
@[simp] theorem fMaxA_tup (ds : List PyData) : fMaxA (.tuple ds) = fMaxL (.list ds) := rfl
theorem fSum_ints (L : List Int) : fSum (.list (L.map .int)) = some (.int L.sum) := by
  unfold fSum
  simp only [ints_map]
  rfl
theorem levelsD_eq {L : List Int} (h : OkL L) {s : Pr} (hs : OkS L s) (st : Sto) : d_levels [.d (iL L), .d (prD s)] st = .ok (.d (.list ((levM L s).map .int))) st := by
  have lM : (layM L s).length ≤ 400 := runL_len _ _ _
  have hz : (layM L s).length ≤ sizeLine := small_le (by omega)
  have e := lcF_map (g := gN 2) (T := tYesF) (e := cA (gA1 fLen) (aCons (cVar 2) (aNil))) (ρ := [some (.d (iL L)), some (.d (prD s)), none]) (st := st) (fun m : List (Pr × Int) => .d (layD m)) (fun m => .int m.length) (layM L s) fun m hm =>
    ⟨[some (.d (iL L)), some (.d (prD s)), some (.d (layD m))], by simp, by simp, by simp [g1, fLen_layD (runL_mlen h hs hm)]⟩
  have e2 : (levM L s).map PyData.int = (layM L s).map fun m => .int m.length := by unfold levM; rw [List.map_map]; rfl
  have e3 : ((layM L s).map layD).map W.d = (layM L s).map fun m => .d (layD m) := by rw [List.map_map]; rfl
  rw [e2]
  show finF st.length (b_levels [some (.d (iL L)), some (.d (prD s)), none] st) = _
  simp [b_levels, need_lengths_eq h, need_setting_eq h hs, layers_from_eq h hs, hz, e, e3]
theorem turned0_eq {L : List Int} (h : OkL L) {s : Pr} (hs : OkS L s) (st : Sto) : starDen 2 d_turned [.d (iL L), .d (prD s)] st = .ok (.d (prD s)) st := by
  have e := after_script_eq h hs [] st
  simp only [scD, List.map_nil, List.foldl_nil] at e
  simp [starDen, datsW, d_turned, b_turned, defF, need_lengths_eq h, need_setting_eq h hs, e]
theorem fSl_last (xs : List PyData) : fSl (some (-1)) none (.list xs) = some (.list (xs.drop (xs.length - 1))) := by
  show some (PyData.list (cutD _ _ _)) = _
  unfold cutD
  by_cases hn : xs = []
  · subst hn; simp
  · have hp : 1 ≤ xs.length := List.length_pos_iff.mpr hn
    rw [sIx_m1 hp]
    have e : HT.sIx xs.length xs.length none = xs.length := rfl
    rw [e, List.take_of_length_le (by rw [List.length_drop]; omega)]
end LK

namespace LK
open PySem Fx
/-! ### walk -/
def orb (L : List Int) : Pr → List Tn → List Pr
  | _, [] => []
  | s, t :: r => aft L s t :: orb L (aft L s t) r
theorem orb_len (L : List Int) : ∀ (S : List Tn) (s : Pr), (orb L s S).length = S.length
  | [], s => rfl
  | t :: r, s => by unfold orb; rw [List.length_cons, List.length_cons, orb_len L r]
theorem orb_last (L : List Int) : ∀ (S : List Tn) (s : Pr), S ≠ [] → (orb L s S).drop ((orb L s S).length - 1) = [S.foldl (aft L) s]
  | [], s, h => absurd rfl h
  | [t], s, _ => rfl
  | t :: u :: r, s, _ => by
    have ih := orb_last L (u :: r) (aft L s t) (by simp)
    have e : orb L s (t :: u :: r) = aft L s t :: orb L (aft L s t) (u :: r) := rfl
    have hl : (orb L (aft L s t) (u :: r)).length = r.length + 1 := by rw [orb_len]; rfl
    rw [e, List.length_cons, hl]
    rw [hl] at ih
    exact ih
def wB : GnF := nSeq (nPlain (sSet 3 (cA d_after_turn (aCons (cVar 0) (aCons (cVar 3) (aCons (cVar 4) (aNil)))))))
    (nSeq (nYield (cVar 3))
    (nNil))
theorem walk_for {L : List Int} (h : OkL L) {w1 w2 : Option W} {st : Sto} : ∀ (S : List Tn) {s : Pr}, OkS L s → ∀ x4, ∃ s' y4, forN (gN 4) wB (S.map fun t => W.d (tD t)) [some (.d (iL L)), w1, w2, some (.d (prD s)), x4] st = .nx [some (.d (iL L)), w1, w2, some (.d (prD s')), y4] st ((orb L s S).map prD)
  | [], s, hs, x4 => ⟨s, x4, rfl⟩
  | t :: r, s, hs, x4 => by
    obtain ⟨s', y4, e⟩ := walk_for h (w1 := w1) (w2 := w2) (st := st) r (aft_ok h hs t) (some (.d (tD t)))
    refine ⟨s', y4, ?_⟩
    have e1 : wB [some (.d (iL L)), w1, w2, some (.d (prD s)), some (.d (tD t))] st = .nx [some (.d (iL L)), w1, w2, some (.d (prD (aft L s t))), some (.d (tD t))] st [prD (aft L s t)] := by
      simp [wB, nSeq, nPlain, nYield, nNil, after_turn_eq h hs t]
    show (match gN 4 (.d (tD t)) [some (.d (iL L)), w1, w2, some (.d (prD s)), x4] st with
      | none => GO.bad
      | some ρ1 => match wB ρ1 st with
        | .nx ρ2 st2 o => (match forN (gN 4) wB (r.map fun t => W.d (tD t)) ρ2 st2 with | .nx ρ3 st3 o2 => .nx ρ3 st3 (o ++ o2) | .bad => .bad)
        | .bad => .bad) = _
    have e0 : gN 4 (.d (tD t)) [some (.d (iL L)), w1, w2, some (.d (prD s)), x4] st = some [some (.d (iL L)), w1, w2, some (.d (prD s)), some (.d (tD t))] := rfl
    rw [e0]
    simp only [e1, e]
    rfl
theorem b_walk_eq : b_walk = nSeq (nPlain (sExpr (cA d_need_lengths (aCons (cVar 0) (aNil)))))
      (nSeq (nPlain (sExpr (cA d_need_setting (aCons (cVar 0) (aCons (cVar 1) (aNil))))))
      (nSeq (nPlain (sExpr (cA (fun ws st => d_need_script (ws ++ [.d (.int 200)]) st) (aCons (cVar 2) (aNil)))))
      (nSeq (nPlain (sSet 3 (cVar 1)))
      (nSeq (nFor (iSeqF (cVar 2)) (gN 4) wB) nNil)))) := rfl
theorem walk_eq {L : List Int} (h : OkL L) {s : Pr} (hs : OkS L s) (S : List Tn) (hS : S.length ≤ 200) (st : Sto) : d_walk [.d (iL L), .d (prD s), .d (scD S)] st = some ((orb L s S).map prD, st) := by
  obtain ⟨s', y4, e⟩ := walk_for h (w1 := some (.d (prD s))) (w2 := some (.d (scD S))) (st := st) S hs none
  have e2 : (S.map tD).map W.d = S.map fun x => W.d (tD x) := by rw [List.map_map]; rfl
  have hz : S.length ≤ sizeLine := small_le (by omega)
  have e3 : nFor (iSeqF (cVar 2)) (gN 4) wB [some (.d (iL L)), some (.d (prD s)), some (.d (scD S)), some (.d (prD s)), none] st = .nx [some (.d (iL L)), some (.d (prD s)), some (.d (scD S)), some (.d (prD s')), y4] st ((orb L s S).map prD) := by
    have a0 : iSeqF (cVar 2) [some (.d (iL L)), some (.d (prD s)), some (.d (scD S)), some (.d (prD s)), none] st = .ok (S.map fun t => W.d (tD t)) st := by simp [e2]
    unfold nFor
    rw [a0]
    exact e
  have p1 : nPlain (sExpr (cA d_need_lengths (aCons (cVar 0) (aNil)))) [some (.d (iL L)), some (.d (prD s)), some (.d (scD S)), none, none] st = .nx [some (.d (iL L)), some (.d (prD s)), some (.d (scD S)), none, none] st [] := by simp [nPlain, need_lengths_eq h]
  have p2 : nPlain (sExpr (cA d_need_setting (aCons (cVar 0) (aCons (cVar 1) (aNil))))) [some (.d (iL L)), some (.d (prD s)), some (.d (scD S)), none, none] st = .nx [some (.d (iL L)), some (.d (prD s)), some (.d (scD S)), none, none] st [] := by simp [nPlain, need_setting_eq h hs]
  have p3 : nPlain (sExpr (cA (fun ws st => d_need_script (ws ++ [.d (.int 200)]) st) (aCons (cVar 2) (aNil)))) [some (.d (iL L)), some (.d (prD s)), some (.d (scD S)), none, none] st = .nx [some (.d (iL L)), some (.d (prD s)), some (.d (scD S)), none, none] st [] := by simp [nPlain, need_script_eq S hS]
  have p4 : nPlain (sSet 3 (cVar 1)) [some (.d (iL L)), some (.d (prD s)), some (.d (scD S)), none, none] st = .nx [some (.d (iL L)), some (.d (prD s)), some (.d (scD S)), some (.d (prD s)), none] st [] := by simp [nPlain]
  have sq : ∀ {F K : GnF} {ρ ρ1 ρ2 : Lv} {st1 : Sto} {o2 : List PyData}, F ρ st1 = .nx ρ1 st1 [] → K ρ1 st1 = .nx ρ2 st1 o2 → nSeq F K ρ st1 = .nx ρ2 st1 o2 := fun {F K ρ ρ1 ρ2 st1 o2} h1 h2 => by
    unfold nSeq
    rw [h1]
    simp only [h2, List.nil_append]
  have sl : nSeq (nFor (iSeqF (cVar 2)) (gN 4) wB) nNil [some (.d (iL L)), some (.d (prD s)), some (.d (scD S)), some (.d (prD s)), none] st = .nx [some (.d (iL L)), some (.d (prD s)), some (.d (scD S)), some (.d (prD s')), y4] st ((orb L s S).map prD) := by
    unfold nSeq
    rw [e3]
    simp only [nNil, List.append_nil]
  have e4 : b_walk [some (.d (iL L)), some (.d (prD s)), some (.d (scD S)), none, none] st = .nx [some (.d (iL L)), some (.d (prD s)), some (.d (scD S)), some (.d (prD s')), y4] st ((orb L s S).map prD) := by
    rw [b_walk_eq]
    exact sq p1 (sq p2 (sq p3 (sq p4 sl)))
  have e5 : ([.d (iL L), .d (prD s), .d (scD S)] : List W).map some ++ List.replicate 2 none = [some (.d (iL L)), some (.d (prD s)), some (.d (scD S)), none, none] := rfl
  unfold d_walk gdefF
  rw [e5, e4]
  have hz' : ((orb L s S).map prD).length ≤ sizeLine := by rw [List.length_map, orb_len]; exact hz
  simp only [hz', if_true, List.take_length]
end LK

namespace LK
open PySem Fx
/-! ### where a turn of the rows falls -/
def shO : Option (Pr × Pr) → PyData
  | none => .none
  | some (a, b) => .tuple [prD a, prD b]
def shTn : SF := sSeq (sSet 4 (cA d__law_after (aCons (cVar 0) (aCons (cA (gSeq .tuple) (aCons (cVar 1) (aCons (c2 (g2 fSub) (cVar 2) (cD (.int 1))) (aNil)))) (aCons (cVar 3) (aNil))))))
    (sIf (Fx.tB (c2 (g2 (fCmpI pLt)) (c2 (g2 fIx) (cVar 4) (cD (.int 1))) (c2 (g2 fSub) (cVar 2) (cD (.int 1))))) (sRet (cA (gSeq .tuple) (aCons (cA (gSeq .tuple) (aCons (cVar 1) (aCons (c2 (g2 fSub) (cVar 2) (cD (.int 1))) (aNil)))) (aCons (cVar 4) (aNil))))) (sNx))
def shRw : SF := sFor (iSeqF (cA (gSeq .tuple) (aCons (cD (.str "R+")) (aCons (cD (.str "R-")) (aNil))))) (gN 3) shTn
theorem b_show_eq : b__law_showing = sSeq (sFor (iEnumF (cVar 0)) (gT 2 (gsCons (gN 1) (gsCons (gN 2) gsNil))) shRw) (sRet (cD .none)) := rfl
section
variable {L : List Int} {st : Sto}
theorem shTn_eq (h : OkL L) {r : Int} (r0 : 0 ≤ r) (r1 : r < L.length) (t : Tn) (x4 : Option W) : (falls L r t = true → shTn [some (.d (iL L)), some (.d (.int r)), some (.d (.int (gL L r))), some (.d (tD t)), x4] st = .rt (.d (shO (some ((r, gL L r - 1), aft L (r, gL L r - 1) t)))) st) ∧
    (falls L r t = false → shTn [some (.d (iL L)), some (.d (.int r)), some (.d (.int (gL L r))), some (.d (tD t)), x4] st = .nx [some (.d (iL L)), some (.d (.int r)), some (.d (.int (gL L r))), some (.d (tD t)), some (.d (prD (aft L (r, gL L r - 1) t)))] st) := by
  have e1 := law_after_eq h (ok_end h r0 r1) t st
  have e2 : fIx (prD (aft L (r, gL L r - 1) t)) (.int 1) = some (.int (aft L (r, gL L r - 1) t).2) := by unfold prD; rw [fIx_tup1]
  have e3 : prD (r, gL L r - 1) = .tuple [.int r, .int (gL L r - 1)] := rfl
  rw [e3] at e1
  constructor
  · intro hf
    unfold falls at hf
    rw [decide_eq_true_eq] at hf
    simp [shTn, g2, gSeq, e1, e2, hf, pLt, shO, e3]
  · intro hf
    unfold falls at hf
    rw [decide_eq_false_iff_not] at hf
    simp [shTn, g2, gSeq, e1, e2, hf, pLt]
theorem shRw_eq (h : OkL L) {r : Int} (r0 : 0 ≤ r) (r1 : r < L.length) (x3 x4 : Option W) : (∃ t, t.isC = false ∧ falls L r t = true ∧ shRw [some (.d (iL L)), some (.d (.int r)), some (.d (.int (gL L r))), x3, x4] st = .rt (.d (shO (some ((r, gL L r - 1), aft L (r, gL L r - 1) t)))) st) ∨
    (falls L r .rp = false ∧ ∃ y3 y4, shRw [some (.d (iL L)), some (.d (.int r)), some (.d (.int (gL L r))), x3, x4] st = .nx [some (.d (iL L)), some (.d (.int r)), some (.d (.int (gL L r))), y3, y4] st) := by
  have e0 : shRw [some (.d (iL L)), some (.d (.int r)), some (.d (.int (gL L r))), x3, x4] st = forF (gN 3) shTn [W.d (tD .rp), W.d (tD .rm)] [some (.d (iL L)), some (.d (.int r)), some (.d (.int (gL L r))), x3, x4] st := by
    simp [shRw, gSeq]; rfl
  have g0 : ∀ (t : Tn) (y3 y4 : Option W), gN 3 (W.d (tD t)) [some (.d (iL L)), some (.d (.int r)), some (.d (.int (gL L r))), y3, y4] st = some [some (.d (iL L)), some (.d (.int r)), some (.d (.int (gL L r))), some (.d (tD t)), y4] := fun _ _ _ => rfl
  rw [e0, forF_cons, g0]
  obtain ⟨a1, a2⟩ := shTn_eq (st := st) h r0 r1 .rp x4
  cases hp : falls L r .rp with
  | true => exact .inl ⟨.rp, rfl, hp, by simp only [a1 hp]⟩
  | false =>
    simp only [a2 hp]
    rw [forF_cons, g0]
    obtain ⟨b1, b2⟩ := shTn_eq (st := st) h r0 r1 .rm (some (.d (prD (aft L (r, gL L r - 1) .rp))))
    cases hm : falls L r .rm with
    | true => exact .inl ⟨.rm, rfl, hm, by simp only [b1 hm]⟩
    | false => exact .inr ⟨trivial, _, _, by simp only [b2 hm]; rfl⟩
theorem sh_loop (h : OkL L) : ∀ (M : List Int) (k : Nat), (∀ j x, M[j]? = some x → ((k + j : Nat) : Int) < L.length ∧ gL L ((k + j : Nat) : Int) = x) → ∀ x1 x2 x3 x4 : Option W,
    (∃ (r : Int) (t : Tn), 0 ≤ r ∧ r < L.length ∧ t.isC = false ∧ falls L r t = true ∧ forF (gT 2 (gsCons (gN 1) (gsCons (gN 2) gsNil))) shRw ((enF k M).map fun p => .d (.tuple [.int p.1, .int p.2])) [some (.d (iL L)), x1, x2, x3, x4] st = .rt (.d (shO (some ((r, gL L r - 1), aft L (r, gL L r - 1) t)))) st) ∨
    ((∀ j, j < M.length → falls L ((k + j : Nat) : Int) .rp = false) ∧ ∃ ρ, forF (gT 2 (gsCons (gN 1) (gsCons (gN 2) gsNil))) shRw ((enF k M).map fun p => .d (.tuple [.int p.1, .int p.2])) [some (.d (iL L)), x1, x2, x3, x4] st = .nx ρ st)
  | [], k, _, x1, x2, x3, x4 => .inr ⟨fun j hj => absurd hj (Nat.not_lt_zero j), _, rfl⟩
  | x :: M, k, hm, x1, x2, x3, x4 => by
    obtain ⟨h1, h2⟩ := hm 0 x rfl
    rw [Nat.add_zero] at h1 h2
    have e0 : gT 2 (gsCons (gN 1) (gsCons (gN 2) gsNil)) (.d (.tuple [.int (k : Int), .int x])) [some (.d (iL L)), x1, x2, x3, x4] st = some [some (.d (iL L)), some (.d (.int (k : Int))), some (.d (.int x)), x3, x4] := by simp
    have e1 : ((enF k (x :: M)).map fun p : Int × Int => W.d (.tuple [.int p.1, .int p.2])) = .d (.tuple [.int (k : Int), .int x]) :: ((enF (k + 1) M).map fun p => .d (.tuple [.int p.1, .int p.2])) := rfl
    rw [e1, forF_cons, e0]
    rcases shRw_eq (st := st) h (r := (k : Int)) (by omega) h1 x3 x4 with ⟨t, c1, c2', c3⟩ | ⟨c1, y3, y4, c2'⟩
    · rw [h2] at c3
      refine .inl ⟨k, t, by omega, h1, c1, c2', ?_⟩
      simp only [c3, h2]
    · rw [h2] at c2'
      simp only [c2']
      rcases sh_loop h M (k + 1) (fun j y hy => by
        have := hm (j + 1) y (by simpa using hy)
        rw [show k + (j + 1) = k + 1 + j by omega] at this
        exact this) (some (.d (.int (k : Int)))) (some (.d (.int x))) y3 y4 with q | ⟨q, ρ, e⟩
      · exact .inl q
      · refine .inr ⟨fun j hj => ?_, ρ, e⟩
        cases j with
        | zero => exact c1
        | succ j =>
          have := q j (by simpa using hj)
          rw [show k + 1 + j = k + (j + 1) by omega] at this
          exact this
theorem showing_eq (h : OkL L) (st : Sto) : ∃ o, d__law_showing [.d (iL L)] st = .ok (.d (shO o)) st ∧ ((o = none ∧ Alike L) ∨ (¬ Alike L ∧ ∃ a t, o = some (a, aft L a t) ∧ OkS L a ∧ t.isC = false ∧ (aft L a t).2 < a.2)) := by
  have hm : ∀ j x, L[j]? = some x → ((0 + j : Nat) : Int) < L.length ∧ gL L ((0 + j : Nat) : Int) = x := fun j x e => by
    have := (List.getElem?_eq_some_iff.mp e).1
    refine ⟨by omega, ?_⟩
    unfold gL
    rw [Nat.zero_add, Int.toNat_natCast, List.getD_eq_getElem?_getD, e]; rfl
  have e0 : ∀ st, d__law_showing [.d (iL L)] st = finF st.length (b__law_showing [some (.d (iL L)), none, none, none, none] st) := fun _ => rfl
  have ee : (packE 0 (L.map PyData.int)) = (enF 0 L).map fun p => .d (.tuple [.int p.1, .int p.2]) := packE_map PyData.int 0 L
  rcases sh_loop (st := st) h L 0 hm none none none none with ⟨r, t, r0, r1, c1, c2', c3⟩ | ⟨q, ρ, e⟩
  · refine ⟨some ((r, gL L r - 1), aft L (r, gL L r - 1) t), ?_, .inr ⟨fun al => ?_, _, t, rfl, ok_end h r0 r1, c1, ?_⟩⟩
    · rw [e0, b_show_eq]
      simp [ee, c3]
    · rw [alike_falls h al r0 r1 c1] at c2'; cases c2'
    · unfold falls at c2'
      exact decide_eq_true_eq.mp c2'
  · refine ⟨none, ?_, .inl ⟨rfl, none_alike h fun r r0 r1 => ?_⟩⟩
    · rw [e0, b_show_eq]
      simp [ee, e, shO]
    · have := q r.toNat (by omega)
      rw [Nat.zero_add, Int.toNat_of_nonneg r0] at this
      exact this
end
end LK

namespace LK
open PySem Fx
def tpD (q : Tn × Pr) : PyData := .tuple [tD q.1, prD q.2]
def preM (L : List Int) (g q : Pr) : List (Tn × Pr) := (allT.filter fun t => decide (aft L q t = g)).map fun t => (t, q)
def hIn : SF := sSet 6 (c2 (g2 fAdd) (cVar 6) (cLc (iSeqF (cD (.tuple [(.str "C+"), (.str "C-"), (.str "R+"), (.str "R-")]))) [8] (gN 8) (tB (c2 (g2 fEq) (cA d_after_turn (aCons (cVar 0) (aCons (cVar 7) (aCons (cVar 8) (aNil))))) (cVar 2))) (cA (gSeq .tuple) (aCons (cVar 8) (aCons (cVar 7) (aNil))))))
def hAsg : SF := sAsg (gT 2 (gsCons (gN 4) (gsCons (gN 2) gsNil))) (cA (gSeq .tuple) (aCons (c2 (g2 fAdd) (cA (gSeq .tuple) (aCons (c2 (g2 fIx) (c2 (g2 fIx) (cVar 6) (cD (.int 0))) (cD (.int 0))) (aNil))) (cVar 4)) (aCons (c2 (g2 fIx) (c2 (g2 fIx) (cVar 6) (cD (.int 0))) (cD (.int 1))) (aNil))))
def hB : SF := sSeq (sSet 6 (cA (gSeq .list) (aNil))) (sSeq (sFor (iSeqF (c2 (g2 fIx) (cVar 3) (cVar 5))) (gN 7) hIn) hAsg)
theorem b_shortest_form : b_shortest = sSeq (sExpr (cA d_need_pair (aCons (cVar 0) (aCons (cVar 1) (aCons (cVar 2) (aNil))))))
    (sSeq (sPar2 3 4 (aCons (cA d_layers_from (aCons (cVar 0) (aCons (cVar 1) (aNil)))) (aCons (cA (gSeq .tuple) (aNil)) (aNil))))
    (sSeq (sFor (fun ρ st => ((aCons (c2 (g2 fSub) (cA d_layer_of (aCons (cVar 3) (aCons (cVar 2) (aNil)))) (cD (.int 1))) (aCons (c1 (g1 fNeg) (cD (.int 1))) (aCons (c1 (g1 fNeg) (cD (.int 1))) (aNil)))) ρ st).bind gRange3) (gN 5) hB)
    (sRet (cVar 4)))) := rfl
section
variable {L : List Int} {st : Sto} {s g : Pr}
abbrev shR (L : List Int) (s g : Pr) (S : List Tn) (x5 x6 x7 x8 : Option W) : Lv := [some (.d (iL L)), some (.d (prD s)), some (.d (prD g)), some (.d (.list ((layM L s).map layD))), some (.d (scD S)), x5, x6, x7, x8]
theorem pre_len (L : List Int) (g q : Pr) : (preM L g q).length ≤ 4 := by
  unfold preM
  rw [List.length_map]
  exact List.length_filter_le _ _
theorem hIn_eq (h : OkL L) {q : Pr} (hq : OkS L q) (S : List Tn) (acc : List (Tn × Pr)) (hz : acc.length ≤ 10000) (x5 x8 : Option W) : hIn (shR L s g S x5 (some (.d (.list (acc.map tpD)))) (some (.d (prD q))) x8) st = .nx (shR L s g S x5 (some (.d (.list ((acc ++ preM L g q).map tpD)))) (some (.d (prD q))) x8) st := by
  have e := lcF_filter (g := gN 8) (T := tB (c2 (g2 fEq) (cA d_after_turn (aCons (cVar 0) (aCons (cVar 7) (aCons (cVar 8) (aNil))))) (cVar 2))) (e := cA (gSeq .tuple) (aCons (cVar 8) (aCons (cVar 7) (aNil)))) (ρ := shR L s g S x5 (some (.d (.list (acc.map tpD)))) (some (.d (prD q))) none) (st := st)
    (fun t : Tn => .d (tD t)) (fun t => decide (aft L q t = g)) (fun t => tpD (t, q)) allT [] fun t _ => ⟨shR L s g S x5 (some (.d (.list (acc.map tpD)))) (some (.d (prD q))) (some (.d (tD t))), by simp, by
      have e1 := after_turn_eq h hq t st
      simp [g2, e1, rep_pr.eq (by decide)], fun _ => by simp [gSeq, tpD]⟩
  have e2 : ((allT.filter fun t => decide (aft L q t = g)).map fun t => tpD (t, q)) = (preM L g q).map tpD := by unfold preM; rw [List.map_map]; rfl
  simp only [List.map_nil, List.nil_append] at e
  rw [e2] at e
  have hp := pre_len L g q
  have e3 : fAdd (.list (acc.map tpD)) (.list ((preM L g q).map tpD)) = some (.list ((acc ++ preM L g q).map tpD)) := by
    rw [fAdd_lst (by rw [List.length_map, List.length_map]; omega), List.map_append]
  have hz4 : (allT.map fun t => W.d (tD t)).length ≤ sizeLine := by rw [List.length_map]; exact small_le (by decide)
  have e4 : cLc (iSeqF (cD (.tuple [(.str "C+"), (.str "C-"), (.str "R+"), (.str "R-")]))) [8] (gN 8) (tB (c2 (g2 fEq) (cA d_after_turn (aCons (cVar 0) (aCons (cVar 7) (aCons (cVar 8) (aNil))))) (cVar 2))) (cA (gSeq .tuple) (aCons (cVar 8) (aCons (cVar 7) (aNil)))) (shR L s g S x5 (some (.d (.list (acc.map tpD)))) (some (.d (prD q))) x8) st
      = .ok (.d (.list ((preM L g q).map tpD))) st := by
    rw [cLc_app, iSeqF_app, cD_app, R.bind_ok, walkW_tup, strs_allT, R.bind_ok, if_pos hz4]
    exact e
  have e0 : cVar 6 (shR L s g S x5 (some (.d (.list (acc.map tpD)))) (some (.d (prD q))) x8) st = .ok (.d (.list (acc.map tpD))) st := by simp
  unfold hIn
  rw [sSet_app, c2_app, e0, R.bind_ok, e4]
  simp [g2, e3, -List.map_append]
theorem hB_eq (h : OkL L) (hs : OkS L s) (hg : OkS L g) (S : List Tn) (hS : S.length ≤ 500) {k : Nat} (hd : Dst (nbs L) s g (k + 1)) (x6 x7 x8 : Option W) : ∃ t q y6 y7 y8, hB (shR L s g S (some (.d (.int k))) x6 x7 x8) st = .nx (shR L s q (t :: S) (some (.d (.int k))) y6 y7 y8) st ∧ OkS L q ∧ Dst (nbs L) s q k ∧ aft L q t = g := by
  have hlt : k < (layM L s).length := by have := dst_lt (layM_spec h hs).2 hd; omega
  have em := List.getElem?_eq_getElem hlt
  generalize (layM L s)[k] = m at em
  have hm : m ∈ layM L s := List.mem_of_getElem? em
  have lay := ((layM_spec h hs).1 _ _ em).2.2.2
  have hml := runL_mlen h hs hm
  have e1 := fIx_layM em
  have tot : ((m.map (·.1)).flatMap (preM L g)).length ≤ 4 * m.length := by
    have go : ∀ ks : List Pr, (ks.flatMap (preM L g)).length ≤ 4 * ks.length := by
      intro ks
      induction ks with
      | nil => simp
      | cons q r ih => rw [List.flatMap_cons, List.length_append, List.length_cons]; have := pre_len L g q; omega
    have := go (m.map (·.1))
    rwa [List.length_map] at this
  obtain ⟨ρ', st', e2, ⟨acc, y7, y8, rfl, rfl, ha, _⟩⟩ := forF_inv (g := gN 7) (F := hIn) (fun q : Pr => .d (prD q)) (fun rest ρ st' => ∃ acc y7 y8, ρ = shR L s g S (some (.d (.int k))) (some (.d (.list (acc.map tpD)))) y7 y8 ∧ st = st' ∧ acc ++ rest.flatMap (preM L g) = (m.map (·.1)).flatMap (preM L g) ∧ ∀ q ∈ rest, OkS L q)
    (m.map (·.1)) (ρ := shR L s g S (some (.d (.int k))) (some (.d (.list []))) x7 x8) (st := st) ⟨[], x7, x8, rfl, rfl, rfl, fun q hq => layM_oks h hs hm hq⟩
    fun q r ρ st' ⟨acc, y7, y8, e, e', ha, ho⟩ => by
      subst e e'
      have hal : acc.length ≤ 10000 := by
        have := congrArg List.length ha
        rw [List.length_append] at this
        omega
      refine ⟨_, _, st, rfl, hIn_eq h (ho q List.mem_cons_self) S acc hal _ y8, acc ++ preM L g q, _, y8, rfl, rfl, ?_, fun x hx => ho x (List.mem_cons_of_mem _ hx)⟩
      rw [← ha, List.flatMap_cons, List.append_assoc]
  rw [List.flatMap_nil, List.append_nil] at ha
  obtain ⟨p, hp, hgp⟩ := hd.pred
  obtain ⟨t0, ht0⟩ := mem_nbs.mp hgp
  have hne : acc ≠ [] := by
    intro hn
    rw [hn] at ha
    have : (t0, p) ∈ (m.map (·.1)).flatMap (preM L g) := List.mem_flatMap.mpr ⟨p, (lay p).mpr hp, by unfold preM; exact List.mem_map.mpr ⟨t0, List.mem_filter.mpr ⟨mem_allT t0, by simp [ht0]⟩, rfl⟩⟩
    rw [← ha] at this
    cases this
  obtain ⟨⟨t, q⟩, acc', rfl⟩ := List.exists_cons_of_ne_nil hne
  have hin : (t, q) ∈ (m.map (·.1)).flatMap (preM L g) := by rw [← ha]; exact List.mem_cons_self
  obtain ⟨q', hq', hin⟩ := List.mem_flatMap.mp hin
  unfold preM at hin
  obtain ⟨t', ht', e3⟩ := List.mem_map.mp hin
  cases e3
  have haft : aft L q t = g := by simpa using (List.mem_filter.mp ht').2
  refine ⟨t, q, some (.d (.list (((t, q) :: acc').map tpD))), y7, y8, ?_, layM_oks h hs hm hq', (lay q).mp hq', haft⟩
  have a1 : (sSet 6 (cA (gSeq .list) (aNil))) (shR L s g S (some (.d (.int k))) x6 x7 x8) st = .nx (shR L s g S (some (.d (.int k))) (some (.d (.list []))) x7 x8) st := by simp [gSeq]
  have a2 : (sFor (iSeqF (c2 (g2 fIx) (cVar 3) (cVar 5))) (gN 7) hIn) (shR L s g S (some (.d (.int k))) (some (.d (.list []))) x7 x8) st = .nx (shR L s g S (some (.d (.int k))) (some (.d (.list (((t, q) :: acc').map tpD)))) y7 y8) st := by
    have b1 : (c2 (g2 fIx) (cVar 3) (cVar 5)) (shR L s g S (some (.d (.int k))) (some (.d (.list []))) x7 x8) st = .ok (.d (layD m)) st := by simp [g2, e1]
    have b2 : walkW (.d (layD m)) st = .ok ((m.map (·.1)).map fun q => .d (prD q)) st := by
      unfold layD dD walkW
      simp only [frz_d, walkD, List.map_map]
      rfl
    rw [sFor_app, iSeqF_app, b1, R.bind_ok, b2]
    exact e2
  have f1 : fIx (.list (((t, q) :: acc').map tpD)) (.int 0) = some (tpD (t, q)) := by rw [List.map_cons, fIx_list0]
  have f2 : fAdd (.tuple [tD t]) (scD S) = some (scD (t :: S)) := by
    unfold scD
    rw [fAdd_tup (by rw [List.length_map]; simp; omega)]; rfl
  have a3 : hAsg (shR L s g S (some (.d (.int k))) (some (.d (.list (((t, q) :: acc').map tpD)))) y7 y8) st = .nx (shR L s q (t :: S) (some (.d (.int k))) (some (.d (.list (((t, q) :: acc').map tpD)))) y7 y8) st := by
    have f3 : fIx (tpD (t, q)) (.int 0) = some (tD t) := by unfold tpD; rw [fIx_tup0]
    have f4 : fIx (tpD (t, q)) (.int 1) = some (prD q) := by unfold tpD; rw [fIx_tup1]
    simp [hAsg, g2, gSeq, f1, f2, f3, f4, -List.map_cons]
  exact seq_nx a1 (seq_nx a2 a3)
theorem shortest_loop (h : OkL L) (hs : OkS L s) : ∀ (d : Nat) (g : Pr) (S : List Tn), OkS L g → S.length + d ≤ 500 → Dst (nbs L) s g d → ∀ x5 x6 x7 x8 : Option W, ∃ S' y2 y5 y6 y7 y8, forF (gN 5) hB ((cdn d).map fun i => .d (.int i)) (shR L s g S x5 x6 x7 x8) st = .nx (shR L s y2 (S' ++ S) y5 y6 y7 y8) st ∧ S'.length = d ∧ S'.foldl (aft L) s = g
  | 0, g, S, hg, hl, hd, x5, x6, x7, x8 => ⟨[], g, x5, x6, x7, x8, rfl, rfl, hd.1⟩
  | d + 1, g, S, hg, hl, hd, x5, x6, x7, x8 => by
    obtain ⟨t, q, y6, y7, y8, e, hq, hdq, ha⟩ := hB_eq (st := st) h hs hg S (by omega) hd x6 x7 x8
    obtain ⟨S', z2, z5, z6, z7, z8, e2, hl2, hf⟩ := shortest_loop h hs d q (t :: S) hq (by rw [List.length_cons]; omega) hdq (some (.d (.int d))) y6 y7 y8
    refine ⟨S' ++ [t], z2, z5, z6, z7, z8, ?_, by simp [hl2], by rw [List.foldl_append, hf]; exact ha⟩
    show forF (gN 5) hB (W.d (.int d) :: (cdn d).map fun i => W.d (.int i)) _ st = _
    rw [forF_cons]
    show (match hB (shR L s g S (some (.d (.int d))) x6 x7 x8) st with | .nx ρ2 st2 => forF (gN 5) hB ((cdn d).map fun i => .d (.int i)) ρ2 st2 | .ct ρ2 st2 => forF (gN 5) hB ((cdn d).map fun i => .d (.int i)) ρ2 st2 | .bk ρ2 st2 => .nx ρ2 st2 | r => r) = _
    rw [e]
    simp only
    rw [e2]
    simp
theorem shortest_eq (h : OkL L) (hs : OkS L s) (hg : OkS L g) (st : Sto) : ∃ S, d_shortest [.d (iL L), .d (prD s), .d (prD g)] st = .ok (.d (scD S)) st ∧ S.length = dst L s g ∧ S.foldl (aft L) s = g := by
  have lM : (layM L s).length ≤ 400 := runL_len _ _ _
  have hlt := layM_lt h hs hg
  obtain ⟨S, y2, y5, y6, y7, y8, e, hl, hf⟩ := shortest_loop (st := st) h hs (dst L s g) g [] hg (by simp; omega) (dst_spec h hs hg) none none none none
  refine ⟨S, ?_, hl, hf⟩
  have a0 : (sExpr (cA d_need_pair (aCons (cVar 0) (aCons (cVar 1) (aCons (cVar 2) (aNil)))))) [some (.d (iL L)), some (.d (prD s)), some (.d (prD g)), none, none, none, none, none, none] st = .nx [some (.d (iL L)), some (.d (prD s)), some (.d (prD g)), none, none, none, none, none, none] st := by simp [need_pair_eq h hs hg]
  have a1 : (sPar2 3 4 (aCons (cA d_layers_from (aCons (cVar 0) (aCons (cVar 1) (aNil)))) (aCons (cA (gSeq .tuple) (aNil)) (aNil)))) [some (.d (iL L)), some (.d (prD s)), some (.d (prD g)), none, none, none, none, none, none] st = .nx (shR L s g [] none none none none) st := by
    simp [layers_from_eq h hs, gSeq, scD]
  have a2 : (sFor (fun ρ st => ((aCons (c2 (g2 fSub) (cA d_layer_of (aCons (cVar 3) (aCons (cVar 2) (aNil)))) (cD (.int 1))) (aCons (c1 (g1 fNeg) (cD (.int 1))) (aCons (c1 (g1 fNeg) (cD (.int 1))) (aNil)))) ρ st).bind gRange3) (gN 5) hB) (shR L s g [] none none none none) st = .nx (shR L s y2 (S ++ []) y5 y6 y7 y8) st := by
    have b1 : (aCons (c2 (g2 fSub) (cA d_layer_of (aCons (cVar 3) (aCons (cVar 2) (aNil)))) (cD (.int 1))) (aCons (c1 (g1 fNeg) (cD (.int 1))) (aCons (c1 (g1 fNeg) (cD (.int 1))) (aNil)))) (shR L s g [] none none none none) st = .ok [.d (.int ((dst L s g : Int) - 1)), .d (.int (-1)), .d (.int (-1))] st := by
      simp [g1, g2, layer_of_eq h hs hg]
    rw [sFor_app]
    simp only [b1, R.bind_ok, gRange3_down (show dst L s g ≤ 500 by omega)]
    exact e
  show finF st.length (b_shortest [some (.d (iL L)), some (.d (prD s)), some (.d (prD g)), none, none, none, none, none, none] st) = _
  rw [b_shortest_form, seq_nx a0 (seq_nx a1 (seq_nx a2 (show _ = SR.rt (.d (scD S)) st from by simp)))]
  simp
end
end LK

namespace LK
open PySem Fx
def wr0 : SF := sSet 3 (cA d_fewest (aCons (cVar 0) (aCons (cVar 1) (aCons (cVar 2) (aNil)))))
def wr1 : SF := sSet 4 (cA d_shortest (aCons (cVar 0) (aCons (cVar 1) (aCons (cVar 2) (aNil)))))
def wr2a : TF := Fx.tB (c2 (g2 fNe) (cA (starDen 2 d_turned) (aCons (cVar 0) (aCons (cVar 1) (aNil)))) (cVar 1))
def wr2b : TF := Fx.tB (c2 (g2 fNe) (cSl (cListG d_walk (aCons (cVar 0) (aCons (cVar 1) (aCons (cVar 4) (aNil))))) (pSome (c1 (g1 fNeg) (cD (.int 1)))) pNone) (c2 gMulH (cA gLstH (aCons (cVar 2) (aNil))) (cA (gA1 fInt) (aCons (c2 (g2 fNe) (cVar 4) (cA (gSeq .tuple) (aNil))) (aNil)))))
def wr2 : SF := sIf (tOrF wr2a wr2b) (sRet (cD (.bool false))) (sNx)
def wr3a : SF := sSet 6 (cA d__law_run (aCons (cVar 0) (aCons (cVar 1) (aCons (cSl (cVar 4) pNone (pSome (cVar 5))) (aNil)))))
def wr3b : SF := sIf (Fx.tB (c2 (g2 fNe) (cA d_fewest (aCons (cVar 0) (aCons (cVar 1) (aCons (cVar 6) (aNil))))) (cVar 5))) (sRet (cD (.bool false))) (sNx)
def wr3 : SF := sFor (fun ρ st => ((aCons (c2 (g2 fAdd) (cA (gA1 fLen) (aCons (cVar 4) (aNil))) (cD (.int 1))) (aNil)) ρ st).bind gRange1) (gN 5) (sSeq wr3a wr3b)
def wr4 : SF := sSet 7 (c2 (g2 fSub) (cA (gA1 fLen) (aCons (cA d_levels (aCons (cVar 0) (aCons (cVar 1) (aNil)))) (aNil))) (cD (.int 1)))
def wr5 : SF := sIf (tOrF (Fx.tB (c2 (g2 (fCmpI pGt)) (cVar 3) (cVar 7))) (Fx.tB (c2 (g2 fNe) (cA (gA1 fSum) (aCons (cA d_levels (aCons (cVar 0) (aCons (cVar 1) (aNil)))) (aNil))) (cA (gA1 fSumA) (aCons (cVar 0) (aNil)))))) (sRet (cD (.bool false))) (sNx)
def wr6 : SF := sIf (Fx.tB (c2 (g2 (fCmpI pLt)) (cA d_count_shortest (aCons (cVar 0) (aCons (cVar 1) (aCons (cVar 2) (aNil))))) (cD (.int 1)))) (sRet (cD (.bool false))) (sNx)
theorem b_right_eq : b__law_way_right = sSeq wr0 (sSeq wr1 (sSeq wr2 (sSeq wr3 (sSeq wr4 (sSeq wr5 (sSeq wr6 (sRet (cD (.bool true))))))))) := rfl
theorem levM_len (L : List Int) (s : Pr) : (levM L s).length = (layM L s).length := by unfold levM; rw [List.length_map]
section
variable {L : List Int} {s g : Pr} {S : List Tn} {st : Sto} {x3 x5 x6 x7 : Option W}
theorem wr2_eq (h : OkL L) (hs : OkS L s) (hS : S.length ≤ 200) (he : S.foldl (aft L) s = g) : wr2 [some (.d (iL L)), some (.d (prD s)), some (.d (prD g)), x3, some (.d (scD S)), x5, x6, x7] st = .nx [some (.d (iL L)), some (.d (prD s)), some (.d (prD g)), x3, some (.d (scD S)), x5, x6, x7] (st ++ [⟨true, .lst [prD g]⟩]) := by
  have e1 : wr2a [some (.d (iL L)), some (.d (prD s)), some (.d (prD g)), x3, some (.d (scD S)), x5, x6, x7] st = .ok false st := by
    simp [wr2a, g2, turned0_eq h hs, rep_pr.ne (by decide)]
  have e2 := walk_eq h hs S hS st
  have e3 := fSl_last ((orb L s S).map prD)
  have e4 : fNe (scD S) (.tuple []) = some (.bool (!decide (S = []))) := (rep_tup rep_tn).ne (by decide) S []
  have e5 := (rep_list rep_pr).ne (by decide) [g] [g]
  have e6 : (cListG d_walk (aCons (cVar 0) (aCons (cVar 1) (aCons (cVar 4) (aNil))))) [some (.d (iL L)), some (.d (prD s)), some (.d (prD g)), x3, some (.d (scD S)), x5, x6, x7] st = .ok (.d (.list ((orb L s S).map prD))) st := by
    simp [cListG, e2]
  have e7 : wr2b [some (.d (iL L)), some (.d (prD s)), some (.d (prD g)), x3, some (.d (scD S)), x5, x6, x7] st = .ok false (st ++ [⟨true, .lst [prD g]⟩]) := by
    by_cases hn : S = []
    · subst hn
      have e8 : orb L s [] = [] := rfl
      rw [e8] at e6 e3
      have e9 : (fNe (.list []) (.list []) : Option PyData) = some (.bool false) := (rep_list rep_pr).ne (by decide) [] []
      have e3' : fSl (some (-1)) none (.list []) = some (.list []) := e3
      simp [wr2b, g1, g2, gSeq, gLstH, gMulH, fInt, e6, e3', e4, e9, R.s]
    · have hl := orb_last L S s hn
      rw [he] at hl
      rw [List.length_map, ← List.map_drop, hl] at e3
      have e5' : fNe (.list [prD g]) (.list [prD g]) = some (.bool false) := by simpa using e5
      simp [wr2b, g1, g2, gSeq, gLstH, gMulH, fInt, e6, e3, e4, e5', hn, R.s]
  unfold wr2
  rw [sIf_app]
  have e8 : tOrF wr2a wr2b [some (.d (iL L)), some (.d (prD s)), some (.d (prD g)), x3, some (.d (scD S)), x5, x6, x7] st = .ok false (st ++ [⟨true, .lst [prD g]⟩]) := by
    unfold tOrF
    simp [e1, e7]
  rw [e8]
  rfl
theorem wr3_eq (h : OkL L) (hs : OkS L s) (hg : OkS L g) (hl : S.length = dst L s g) (hS : S.length ≤ 200) (he : S.foldl (aft L) s = g) : ∃ y5 y6, wr3 [some (.d (iL L)), some (.d (prD s)), some (.d (prD g)), x3, some (.d (scD S)), x5, x6, x7] st = .nx [some (.d (iL L)), some (.d (prD s)), some (.d (prD g)), x3, some (.d (scD S)), y5, y6, x7] st := by
  obtain ⟨ρ', st', e, ⟨y5, y6, rfl, rfl, _⟩⟩ := forF_inv (g := gN 5) (F := sSeq wr3a wr3b) (fun i : Int => .d (.int i)) (fun is ρ st' => ∃ y5 y6, ρ = [some (.d (iL L)), some (.d (prD s)), some (.d (prD g)), x3, some (.d (scD S)), y5, y6, x7] ∧ st' = st ∧ ∀ i ∈ is, i ∈ rg (S.length + 1)) (rg (S.length + 1)) (ρ := [some (.d (iL L)), some (.d (prD s)), some (.d (prD g)), x3, some (.d (scD S)), x5, x6, x7]) (st := st) ⟨x5, x6, rfl, rfl, fun _ h => h⟩
    fun i is ρ st' ⟨y5, y6, e, e', hi⟩ => by
      subst e e'
      obtain ⟨i0, i1⟩ := mem_rg.mp (hi i List.mem_cons_self)
      have a := dst_part h hs hg hl he (k := i.toNat) (by omega)
      have om := run_ok h (S.take i.toNat) hs
      have f1 : fSl none (some i) (scD S) = some (scD (S.take i.toNat)) := fSl_to tD S i0
      have f2 := law_run_eq h hs (S.take i.toNat) st'
      have f3 := fewest_eq h hs om st'
      rw [a, Int.toNat_of_nonneg i0] at f3
      refine ⟨_, _, _, rfl, seq_nx (ρ' := [some (.d (iL L)), some (.d (prD s)), some (.d (prD g)), x3, some (.d (scD S)), some (.d (.int i)), some (.d (prD ((S.take i.toNat).foldl (aft L) s))), x7]) (st' := st') ?_ ?_, some (.d (.int i)), some (.d (prD ((S.take i.toNat).foldl (aft L) s))), rfl, rfl, fun j hj => hi j (List.mem_cons_of_mem _ hj)⟩
      · simp [wr3a, g1, f1, f2]
      · simp [wr3b, g2, f3, rep_int.ne (by decide), R.s]
  refine ⟨y5, y6, ?_⟩
  have hg := gRange1_eq (n := (S.length : Int) + 1) (by omega) (by omega) st'
  have f6 : fLen (scD S) = some (.int S.length) := fLen_scD S
  unfold wr3
  rw [sFor_app]
  have b1 : (aCons (c2 (g2 fAdd) (cA (gA1 fLen) (aCons (cVar 4) (aNil))) (cD (.int 1))) (aNil)) [some (.d (iL L)), some (.d (prD s)), some (.d (prD g)), x3, some (.d (scD S)), x5, x6, x7] st' = .ok [.d (.int ((S.length : Int) + 1))] st' := by
    simp [g1, g2, f6]
  simp only [b1, R.bind_ok, hg]
  exact e
theorem way_right_eq (h : OkL L) (hs : OkS L s) (hg : OkS L g) (st : Sto) : d__law_way_right [.d (iL L), .d (prD s), .d (prD g)] st = .ok (.d (.bool true)) st := by
  have hb := dst_le h hs hg
  have hg1 := h.at hg.r0 hg.r1
  have hn := h.le
  obtain ⟨S, es, hl, he⟩ := shortest_eq h hs hg st
  have hS : S.length ≤ 200 := by omega
  have q0 : wr0 [some (.d (iL L)), some (.d (prD s)), some (.d (prD g)), none, none, none, none, none] st = .nx [some (.d (iL L)), some (.d (prD s)), some (.d (prD g)), some (.d (.int (dst L s g))), none, none, none, none] st := by simp [wr0, fewest_eq h hs hg]
  have q1 : wr1 [some (.d (iL L)), some (.d (prD s)), some (.d (prD g)), some (.d (.int (dst L s g))), none, none, none, none] st = .nx [some (.d (iL L)), some (.d (prD s)), some (.d (prD g)), some (.d (.int (dst L s g))), some (.d (scD S)), none, none, none] st := by simp [wr1, es]
  have q2 := wr2_eq (st := st) (x3 := some (.d (.int (dst L s g)))) (x5 := none) (x6 := none) (x7 := none) h hs hS he
  obtain ⟨y5, y6, q3⟩ := wr3_eq (st := st ++ [⟨true, .lst [prD g]⟩]) (x3 := some (.d (.int (dst L s g)))) (x5 := none) (x6 := none) (x7 := none) h hs hg hl hS he
  have q4 : wr4 [some (.d (iL L)), some (.d (prD s)), some (.d (prD g)), some (.d (.int (dst L s g))), some (.d (scD S)), y5, y6, none] (st ++ [⟨true, .lst [prD g]⟩]) = .nx [some (.d (iL L)), some (.d (prD s)), some (.d (prD g)), some (.d (.int (dst L s g))), some (.d (scD S)), y5, y6, some (.d (.int ((layM L s).length - 1)))] (st ++ [⟨true, .lst [prD g]⟩]) := by
    simp [wr4, g1, g2, levelsD_eq h hs, levM_len]
  have hlt := layM_lt h hs hg
  have hgt : ¬ (((layM L s).length : Int) - 1 < (dst L s g : Int)) := by omega
  have q5 : wr5 [some (.d (iL L)), some (.d (prD s)), some (.d (prD g)), some (.d (.int (dst L s g))), some (.d (scD S)), y5, y6, some (.d (.int ((layM L s).length - 1)))] (st ++ [⟨true, .lst [prD g]⟩]) = .nx [some (.d (iL L)), some (.d (prD s)), some (.d (prD g)), some (.d (.int (dst L s g))), some (.d (scD S)), y5, y6, some (.d (.int ((layM L s).length - 1)))] (st ++ [⟨true, .lst [prD g]⟩]) := by
    simp [wr5, g1, g2, levelsD_eq h hs, fSum_ints, levM_sum h hs, pGt, hgt, rep_int.ne (by decide), R.s]
  obtain ⟨_, _, _, hw⟩ := ways_at h hs hg
  have hw' : ¬ (waysM L s g < 1) := by omega
  have q6 : wr6 [some (.d (iL L)), some (.d (prD s)), some (.d (prD g)), some (.d (.int (dst L s g))), some (.d (scD S)), y5, y6, some (.d (.int ((layM L s).length - 1)))] (st ++ [⟨true, .lst [prD g]⟩]) = .nx [some (.d (iL L)), some (.d (prD s)), some (.d (prD g)), some (.d (.int (dst L s g))), some (.d (scD S)), y5, y6, some (.d (.int ((layM L s).length - 1)))] (st ++ [⟨true, .lst [prD g]⟩]) := by
    simp [wr6, g2, count_shortest_eq h hs hg, pLt, hw', R.s]
  show finF st.length (b__law_way_right [some (.d (iL L)), some (.d (prD s)), some (.d (prD g)), none, none, none, none, none] st) = _
  rw [b_right_eq, seq_nx q0 (seq_nx q1 (seq_nx q2 (seq_nx q3 (seq_nx q4 (seq_nx q5 (seq_nx q6 (show _ = SR.rt (.d (.bool true)) (st ++ [⟨true, .lst [prD g]⟩]) from by simp)))))))]
  simp
end
end LK

namespace LK
open PySem Fx
def p0 : SF := sSet 2 (c2 (g2 fIx) (cA (gSeq .list) (aCons (cA d__law_lengths (aCons (cVar 1) (aCons (cD (.int 12)) (aCons (cD (.int 31)) (aNil))))) (aCons (cA d__law_lengths (aCons (cVar 1) (aCons (cD (.int 12)) (aCons (cD (.int 12)) (aNil))))) (aCons ((fun _ st => d_month_lengths [.d (.bool false)] st)) (aNil))))) (cA d__law_take (aCons (cVar 1) (aCons (cD (.int 3)) (aNil)))))
def p1 : SF := sPar3 3 4 5 (aCons (cA d__law_start (aCons (cVar 1) (aCons (cVar 2) (aNil)))) (aCons (cA d__law_start (aCons (cVar 1) (aCons (cVar 2) (aNil)))) (aCons (cA d__law_start (aCons (cVar 1) (aCons (cVar 2) (aNil)))) (aNil))))
def p2 : SF := sPar2 6 7 (aCons (cA d_fewest (aCons (cVar 2) (aCons (cVar 3) (aCons (cVar 4) (aNil))))) (aCons (cA d_fewest (aCons (cVar 2) (aCons (cVar 4) (aCons (cVar 3) (aNil))))) (aNil)))
def p3 : SF := sIf (Fx.tB (c2 (g2 (fCmpI pGt)) (cA d_fewest (aCons (cVar 2) (aCons (cVar 3) (aCons (cVar 5) (aNil))))) (c2 (g2 fAdd) (cVar 6) (cA d_fewest (aCons (cVar 2) (aCons (cVar 4) (aCons (cVar 5) (aNil)))))))) (sRet (cD (.bool false))) (sNx)
def p4 : SF := sIf (Fx.tB (c2 (g2 fNe) (c2 (g2 fEq) (cVar 6) (cD (.int 0))) (c2 (g2 fEq) (cVar 3) (cVar 4)))) (sRet (cD (.bool false))) (sNx)
def p5 : SF := sSet 8 (cA d__law_showing (aCons (cVar 2) (aNil)))
def p6 : SF := sIf (Fx.tB (c2 (g2 fNe) (c2 gIsN (cVar 8) (cD .none)) (c2 (g2 fEq) (c1 (g1 fLenSet) (cVar 2)) (cD (.int 1))))) (sRet (cD (.bool false))) (sNx)
def p7 : SF := sIf (tAndF (Fx.tB (c2 gIsN (cVar 8) (cD .none))) (Fx.tB (c2 (g2 fNe) (cVar 6) (cVar 7)))) (sRet (cD (.bool false))) (sNx)
def p8a : SF := sIf (Fx.tB (c2 (g2 fNe) (cA d_fewest (aCons (cVar 2) (aCons (c2 (g2 fIx) (cVar 8) (cD (.int 0))) (aCons (c2 (g2 fIx) (cVar 8) (cD (.int 1))) (aNil))))) (cD (.int 1)))) (sRet (cD (.bool false))) (sNx)
def p8b : SF := sIf (Fx.tB (c2 (g2 (fCmpI pLt)) (cA d_fewest (aCons (cVar 2) (aCons (c2 (g2 fIx) (cVar 8) (cD (.int 1))) (aCons (c2 (g2 fIx) (cVar 8) (cD (.int 0))) (aNil))))) (cD (.int 2)))) (sRet (cD (.bool false))) (sNx)
def p8 : SF := sIf (Fx.tB (c2 gNotN (cVar 8) (cD .none))) (sSeq p8a p8b) (sNx)
def p9 : SF := sIf (tNotF (Fx.tB (cA d__law_way_right (aCons (cVar 2) (aCons (cVar 3) (aCons (cVar 4) (aNil))))))) (sRet (cD (.bool false))) (sNx)
def p10 : SF := sSet 9 (c2 (g2 fSub) (cA (gA1 fLen) (aCons (cA d_levels (aCons (cVar 2) (aCons (cVar 3) (aNil)))) (aNil))) (cD (.int 1)))
def p11 : SF := sSet 10 (cA (gA1 fAbs) (aCons (c2 (g2 fSub) (c2 (g2 fIx) (cVar 3) (cD (.int 0))) (c2 (g2 fIx) (cVar 4) (cD (.int 0)))) (aNil)))
def p12 : SF := sIf (Fx.tB (c2 (g2 (fCmpI pLt)) (cVar 6) (cA (gA2 fMin2) (aCons (cVar 10) (aCons (c2 (g2 fSub) (cA (gA1 fLen) (aCons (cVar 2) (aNil))) (cVar 10)) (aNil)))))) (sRet (cD (.bool false))) (sNx)
def p13 : SF := sIf (Fx.tB (c2 (g2 (fCmpI pGt)) (cVar 9) (c2 (g2 fAdd) (c2 (g2 fAdd) (c2 (g2 fDiv) (cA (gA1 fLen) (aCons (cVar 2) (aNil))) (cD (.int 2))) (c2 (g2 fDiv) (cA (gA1 fMaxA) (aCons (cVar 2) (aNil))) (cD (.int 2)))) (cA (gA1 fMaxA) (aCons (cVar 2) (aNil)))))) (sRet (cD (.bool false))) (sNx)
def bodyL : SF := sSeq p0 (sSeq p1 (sSeq p2 (sSeq p3 (sSeq p4 (sSeq p5 (sSeq p6 (sSeq p7 (sSeq p8 (sSeq p9 (sSeq p10 (sSeq p11 (sSeq p12 p13))))))))))))
def qF : SF := sRet (cAnd (c2 (g2 fEq) (cA d_fewest (aCons (cA (gSeq .tuple) (aCons (cD (.int 31)) (aCons (cD (.int 16)) (aNil)))) (aCons (cA (gSeq .tuple) (aCons (cD (.int 0)) (aCons (cD (.int 30)) (aNil)))) (aCons (cA (gSeq .tuple) (aCons (cD (.int 0)) (aCons (cD (.int 15)) (aNil)))) (aNil))))) (cD (.int 2))) (c2 (g2 fEq) (cA d_fewest (aCons (cA (gSeq .tuple) (aCons (cD (.int 31)) (aCons (cD (.int 16)) (aNil)))) (aCons (cA (gSeq .tuple) (aCons (cD (.int 0)) (aCons (cD (.int 15)) (aNil)))) (aCons (cA (gSeq .tuple) (aCons (cD (.int 0)) (aCons (cD (.int 30)) (aNil)))) (aNil))))) (cD (.int 4))))
theorem b_law_eq : b_law = sSeq (sFor (iSeqF (cA d__law_bags (aCons (cVar 0) (aCons (cD (.int 4)) (aNil))))) (gN 1) bodyL) qF := rfl
section
variable {L : List Int} {st : Sto} {n : Nat} {x0 x1 x2 x3 x4 x5 x6 x7 x8 x9 x10 : Option W} {s g u : Pr}
theorem p0_eq (hb : BagAt st n) : ∃ M st', p0 [x0, some (.h n), x2, x3, x4, x5, x6, x7, x8, x9, x10] st = .nx [x0, some (.h n), some (.d (iL M)), x3, x4, x5, x6, x7, x8, x9, x10] st' ∧ OkL M ∧ Ev st st' := by
  obtain ⟨M, s1, e1, ok, _, _, v1⟩ := lengths_eq hb (rows := 12) (most := 31) (by decide) (by decide) (by decide) (by decide)
  obtain ⟨M2, s2, e2, ok2, _, _, v2⟩ := lengths_eq (v1.2 n hb) (rows := 12) (most := 12) (by decide) (by decide) (by decide) (by decide)
  have v12 := v1.trans v2
  have e3 := month_lengths_eq s2
  obtain ⟨i, s3, e4, i0, i1, v3⟩ := take_eq (v12.2 n hb) (m := 3) (by decide)
  have hi : i = 0 ∨ i = 1 ∨ i = 2 := by omega
  rcases hi with rfl | rfl | rfl
  · exact ⟨M, s3, by simp [p0, g2, gSeq, e1, e2, e3, e4], ok, v12.trans v3⟩
  · exact ⟨M2, s3, by simp [p0, g2, gSeq, e1, e2, e3, e4], ok2, v12.trans v3⟩
  · have f2 : fIx (.list [iL M, iL M2, iL monthsM]) (.int 2) = some (iL monthsM) := rfl
    exact ⟨monthsM, s3, by simp [p0, g2, gSeq, e1, e2, e3, e4, f2], months_ok, v12.trans v3⟩
theorem p1_eq (hb : BagAt st n) (h : OkL L) : ∃ s g u st', p1 [x0, some (.h n), some (.d (iL L)), x3, x4, x5, x6, x7, x8, x9, x10] st = .nx [x0, some (.h n), some (.d (iL L)), some (.d (prD s)), some (.d (prD g)), some (.d (prD u)), x6, x7, x8, x9, x10] st' ∧ OkS L s ∧ OkS L g ∧ OkS L u ∧ Ev st st' := by
  obtain ⟨s, s1, e1, hs, v1⟩ := start_eq hb h
  obtain ⟨g, s2, e2, hg, v2⟩ := start_eq (v1.2 n hb) h
  obtain ⟨u, s3, e3, hu, v3⟩ := start_eq ((v1.trans v2).2 n hb) h
  exact ⟨s, g, u, s3, by simp [p1, e1, e2, e3], hs, hg, hu, (v1.trans v2).trans v3⟩
@[simp] theorem isNon_n : isNon (W.d PyData.none) = true := rfl
@[simp] theorem isNon_t (xs : List PyData) : isNon (W.d (PyData.tuple xs)) = false := rfl
theorem seq3 {F1 F2 F3 K : SF} {ρ : Lv} {st : Sto} {r : SR} (h1 : F1 ρ st = .nx ρ st) (h2 : F2 ρ st = .nx ρ st) (h3 : F3 ρ st = .nx ρ st) (hk : K ρ st = r) : sSeq F1 (sSeq F2 (sSeq F3 K)) ρ st = r := seq_nx h1 (seq_nx h2 (seq_nx h3 hk))
theorem maxA_eq (h : OkL L) : ∃ M, fMaxA (iL L) = some (.int M) ∧ (∀ x ∈ L, x ≤ M) ∧ 1 ≤ M ∧ M ≤ 31 := by
  cases L with
  | nil => exact absurd h.len (by simp)
  | cons a r =>
    have ge := foldl_max_ge r a
    have mem := foldl_max_mem r a
    have a1 := h.all _ mem
    refine ⟨r.foldl max a, ?_, fun x hx => ?_, a1.1, a1.2⟩
    · show fMaxL (.list ((a :: r).map .int)) = _
      unfold fMaxL
      simp only [ints_map]
    · rcases List.mem_cons.mp hx with rfl | hx
      · exact ge.1
      · exact ge.2 x hx
theorem rest_eq (h : OkL L) (hs : OkS L s) (hg : OkS L g) (hu : OkS L u) : ∃ ρ, (sSeq p2 (sSeq p3 (sSeq p4 (sSeq p5 (sSeq p6 (sSeq p7 (sSeq p8 (sSeq p9 (sSeq p10 (sSeq p11 (sSeq p12 p13))))))))))) [x0, x1, some (.d (iL L)), some (.d (prD s)), some (.d (prD g)), some (.d (prD u)), x6, x7, x8, x9, x10] st = .nx ρ st ∧ ρ.length = 11 := by
  have f1 := fewest_eq h hs hg st
  have f2 := fewest_eq h hg hs st
  have f3 := fewest_eq h hs hu st
  have f4 := fewest_eq h hg hu st
  have tri := dst_tri h hs hg hu
  have htri : ¬ ((dst L s g : Int) + (dst L g u : Int) < (dst L s u : Int)) := by omega
  have q2 : p2 [x0, x1, some (.d (iL L)), some (.d (prD s)), some (.d (prD g)), some (.d (prD u)), x6, x7, x8, x9, x10] st = .nx [x0, x1, some (.d (iL L)), some (.d (prD s)), some (.d (prD g)), some (.d (prD u)), some (.d (.int (dst L s g))), some (.d (.int (dst L g s))), x8, x9, x10] st := by simp [p2, f1, f2]
  have q3 : p3 [x0, x1, some (.d (iL L)), some (.d (prD s)), some (.d (prD g)), some (.d (prD u)), some (.d (.int (dst L s g))), some (.d (.int (dst L g s))), x8, x9, x10] st = .nx [x0, x1, some (.d (iL L)), some (.d (prD s)), some (.d (prD g)), some (.d (prD u)), some (.d (.int (dst L s g))), some (.d (.int (dst L g s))), x8, x9, x10] st := by
    simp [p3, g2, f3, f4, pGt, htri, R.s]
  have q4 : p4 [x0, x1, some (.d (iL L)), some (.d (prD s)), some (.d (prD g)), some (.d (prD u)), some (.d (.int (dst L s g))), some (.d (.int (dst L g s))), x8, x9, x10] st = .nx [x0, x1, some (.d (iL L)), some (.d (prD s)), some (.d (prD g)), some (.d (prD u)), some (.d (.int (dst L s g))), some (.d (.int (dst L g s))), x8, x9, x10] st := by
    have z := dst_zero h hs hg
    by_cases e : s = g
    · have z0 : dst L s g = 0 := z.mpr e
      have z1 : dst L g g = 0 := (dst_zero h hg hg).mpr rfl
      simp [p4, g2, rep_int.eq (by decide), rep_pr.eq (by decide), rep_bool.ne (by decide), z0, z1, e, R.s]
    · have z0 : ¬ dst L s g = 0 := fun q => e (z.mp q)
      simp [p4, g2, rep_int.eq (by decide), rep_pr.eq (by decide), rep_bool.ne (by decide), z0, e, R.s]
  obtain ⟨o, es, ho⟩ := showing_eq h st
  have q5 : p5 [x0, x1, some (.d (iL L)), some (.d (prD s)), some (.d (prD g)), some (.d (prD u)), some (.d (.int (dst L s g))), some (.d (.int (dst L g s))), x8, x9, x10] st = .nx [x0, x1, some (.d (iL L)), some (.d (prD s)), some (.d (prD g)), some (.d (prD u)), some (.d (.int (dst L s g))), some (.d (.int (dst L g s))), some (.d (shO o)), x9, x10] st := by simp [p5, es]
  have hlen : L.length < 64 := by have := h.le; omega
  have hne : L ≠ [] := by have := h.len; intro e; rw [e] at this; simp at this
  have fs := fLenSet_iL hlen
  have q678 : ∀ {K : SF} {r : SR}, K [x0, x1, some (.d (iL L)), some (.d (prD s)), some (.d (prD g)), some (.d (prD u)), some (.d (.int (dst L s g))), some (.d (.int (dst L g s))), some (.d (shO o)), x9, x10] st = r → (sSeq p6 (sSeq p7 (sSeq p8 K))) [x0, x1, some (.d (iL L)), some (.d (prD s)), some (.d (prD g)), some (.d (prD u)), some (.d (.int (dst L s g))), some (.d (.int (dst L g s))), some (.d (shO o)), x9, x10] st = r := by
    intro K r hk
    rcases ho with ⟨rfl, al⟩ | ⟨nal, a, t, rfl, oa, ht, hf⟩
    · have hu1 := usort_of hne al
      have e1 := alike_dst h al hs hg
      have e2 := alike_dst h al hg hs
      have e3 := dstS_sym h hs hg
      have e4 : dst L g s = dst L s g := by omega
      have o0 : shO none = .none := rfl
      rw [o0, e4] at hk ⊢
      refine seq3 ?_ ?_ ?_ hk
      · simp [p6, g1, g2, gIsN, fs, hu1, rep_int.eq (by decide), rep_bool.ne (by decide), R.s]
      · simp [p7, tAndF, g2, gIsN, rep_int.ne (by decide), R.s]
      · simp [p8, gNotN, R.s]
    · have hu1 : ¬ (usort ltI L).length = 1 := fun e => nal (alike_of e)
      have hu2 : ¬ ((usort ltI L).length : Int) = 1 := by omega
      obtain ⟨d1, d2⟩ := fall_dst h oa ht hf
      have ob := aft_ok h oa t
      have f5 := fewest_eq h oa ob st
      have f6 := fewest_eq h ob oa st
      rw [d1] at f5
      have d3 : ¬ ((dst L (aft L a t) a : Int) < 2) := by omega
      have o0 : shO (some (a, aft L a t)) = .tuple [prD a, prD (aft L a t)] := rfl
      rw [o0] at hk ⊢
      refine seq3 ?_ ?_ ?_ hk
      · simp [p6, g1, g2, gIsN, fs, hu1, hu2, rep_int.eq (by decide), rep_bool.ne (by decide), R.s]
      · simp [p7, tAndF, g2, gIsN, R.s]
      · simp [p8, p8a, p8b, g2, gNotN, fIx_tup0, fIx_tup1, f5, f6, d3, pLt, rep_int.ne (by decide), R.s]
  have w := way_right_eq h hs hg st
  have q9 : p9 [x0, x1, some (.d (iL L)), some (.d (prD s)), some (.d (prD g)), some (.d (prD u)), some (.d (.int (dst L s g))), some (.d (.int (dst L g s))), some (.d (shO o)), x9, x10] st = .nx [x0, x1, some (.d (iL L)), some (.d (prD s)), some (.d (prD g)), some (.d (prD u)), some (.d (.int (dst L s g))), some (.d (.int (dst L g s))), some (.d (shO o)), x9, x10] st := by
    simp [p9, tNotF, w, R.s]
  have q10 : p10 [x0, x1, some (.d (iL L)), some (.d (prD s)), some (.d (prD g)), some (.d (prD u)), some (.d (.int (dst L s g))), some (.d (.int (dst L g s))), some (.d (shO o)), x9, x10] st = .nx [x0, x1, some (.d (iL L)), some (.d (prD s)), some (.d (prD g)), some (.d (prD u)), some (.d (.int (dst L s g))), some (.d (.int (dst L g s))), some (.d (shO o)), some (.d (.int ((layM L s).length - 1))), x10] st := by
    simp [p10, g1, g2, levelsD_eq h hs, levM_len]
  have hs1 : fIx (prD s) (.int 0) = some (.int s.1) := by unfold prD; rw [fIx_tup0]
  have hg1 : fIx (prD g) (.int 0) = some (.int g.1) := by unfold prD; rw [fIx_tup0]
  obtain ⟨D, hD, hD2, hDn⟩ : ∃ D : Int, fAbs (.int (s.1 - g.1)) = some (.int D) ∧ min D ((L.length : Int) - D) ≤ dst L s g ∧ 0 ≤ D := by
    refine ⟨if s.1 - g.1 < 0 then -(s.1 - g.1) else s.1 - g.1, rfl, ?_, by split <;> omega⟩
    have c := dst_cyc h hs hg
    unfold cyc at c
    have e : (if s.1 - g.1 < 0 then -(s.1 - g.1) else s.1 - g.1) = (if s.1 < g.1 then g.1 - s.1 else s.1 - g.1) := by split <;> split <;> omega
    rw [e]
    exact c
  have q11 : p11 [x0, x1, some (.d (iL L)), some (.d (prD s)), some (.d (prD g)), some (.d (prD u)), some (.d (.int (dst L s g))), some (.d (.int (dst L g s))), some (.d (shO o)), some (.d (.int ((layM L s).length - 1))), x10] st = .nx [x0, x1, some (.d (iL L)), some (.d (prD s)), some (.d (prD g)), some (.d (prD u)), some (.d (.int (dst L s g))), some (.d (.int (dst L g s))), some (.d (shO o)), some (.d (.int ((layM L s).length - 1))), some (.d (.int D))] st := by
    simp [p11, g1, g2, hs1, hg1, hD]
  have hD3 : ¬ ((dst L s g : Int) < min D ((L.length : Int) - D)) := by omega
  have q12 : p12 [x0, x1, some (.d (iL L)), some (.d (prD s)), some (.d (prD g)), some (.d (prD u)), some (.d (.int (dst L s g))), some (.d (.int (dst L g s))), some (.d (shO o)), some (.d (.int ((layM L s).length - 1))), some (.d (.int D))] st = .nx [x0, x1, some (.d (iL L)), some (.d (prD s)), some (.d (prD g)), some (.d (prD u)), some (.d (.int (dst L s g))), some (.d (.int (dst L g s))), some (.d (shO o)), some (.d (.int ((layM L s).length - 1))), some (.d (.int D))] st := by
    unfold p12
    rw [sIf_app]
    have z : Fx.tB (c2 (g2 (fCmpI pLt)) (cVar 6) (cA (gA2 fMin2) (aCons (cVar 10) (aCons (c2 (g2 fSub) (cA (gA1 fLen) (aCons (cVar 2) (aNil))) (cVar 10)) (aNil))))) [x0, x1, some (.d (iL L)), some (.d (prD s)), some (.d (prD g)), some (.d (prD u)), some (.d (.int (dst L s g))), some (.d (.int (dst L g s))), some (.d (shO o)), some (.d (.int ((layM L s).length - 1))), some (.d (.int D))] st = .ok (decide ((dst L s g : Int) < min D ((L.length : Int) - D))) st := by
      simp [g1, g2, pLt]
    rw [z, decide_eq_false hD3]
    rfl
  obtain ⟨M, eM, hM, M1, M2⟩ := maxA_eq h
  have far := far_le h hs hM
  have fM := fDiv_int (i := M) (j := 2) (by decide) (by decide)
  have fN := fDiv_int (i := (L.length : Int)) (j := 2) (by decide) (by decide)
  have hfar : ¬ ((L.length : Int) / 2 + M / 2 + M < (layM L s).length - 1) := by omega
  have q13 : p13 [x0, x1, some (.d (iL L)), some (.d (prD s)), some (.d (prD g)), some (.d (prD u)), some (.d (.int (dst L s g))), some (.d (.int (dst L g s))), some (.d (shO o)), some (.d (.int ((layM L s).length - 1))), some (.d (.int D))] st = .nx [x0, x1, some (.d (iL L)), some (.d (prD s)), some (.d (prD g)), some (.d (prD u)), some (.d (.int (dst L s g))), some (.d (.int (dst L g s))), some (.d (shO o)), some (.d (.int ((layM L s).length - 1))), some (.d (.int D))] st := by
    have eM' : fMaxL (.list (L.map .int)) = some (.int M) := eM
    simp [p13, g1, g2, eM', fM, fN, pGt, hfar, R.s]
  exact ⟨_, seq_nx q2 (seq_nx q3 (seq_nx q4 (seq_nx q5 (q678 (seq_nx q9 (seq_nx q10 (seq_nx q11 (seq_nx q12 q13)))))))), rfl⟩
theorem body_eq (hb : BagAt st n) : ∃ ρ' st', bodyL [x0, some (.h n), x2, x3, x4, x5, x6, x7, x8, x9, x10] st = .nx ρ' st' ∧ ρ'.length = 11 ∧ ∀ k, BagAt st k → BagAt st' k := by
  obtain ⟨L, s1, e0, ok, v1⟩ := p0_eq hb (x0 := x0) (x2 := x2) (x3 := x3) (x4 := x4) (x5 := x5) (x6 := x6) (x7 := x7) (x8 := x8) (x9 := x9) (x10 := x10)
  obtain ⟨s, g, u, s2, e1, hs, hg, hu, v2⟩ := p1_eq (v1.2 n hb) ok (x0 := x0) (x3 := x3) (x4 := x4) (x5 := x5) (x6 := x6) (x7 := x7) (x8 := x8) (x9 := x9) (x10 := x10)
  obtain ⟨ρ, e2, l⟩ := rest_eq ok hs hg hu (st := s2) (x0 := x0) (x1 := some (.h n)) (x6 := x6) (x7 := x7) (x8 := x8) (x9 := x9) (x10 := x10)
  exact ⟨ρ, s2, seq_nx e0 (seq_nx e1 e2), l, (v1.trans v2).2⟩
end
theorem kA : dst [31, 16] (0, 30) (0, 15) = 4 - 2 := dst_eq ⟨by decide, by decide, by decide⟩ ⟨by decide, by decide, by decide, by decide⟩ ⟨by decide, by decide, by decide, by decide⟩ (dst_of_b (by decide +kernel))
theorem kB : dst [31, 16] (0, 15) (0, 30) = 4 := dst_eq ⟨by decide, by decide, by decide⟩ ⟨by decide, by decide, by decide, by decide⟩ ⟨by decide, by decide, by decide, by decide⟩ (dst_of_b (by decide +kernel))
theorem qF_eq (ρ : Lv) (st : Sto) : qF ρ st = .rt (.d (.bool true)) st := by
  have e1 := fewest_eq (L := [31, 16]) ⟨by decide, by decide, by decide⟩ (s := (0, 30)) ⟨by decide, by decide, by decide, by decide⟩ (g := (0, 15)) ⟨by decide, by decide, by decide, by decide⟩ st
  have e2 := fewest_eq (L := [31, 16]) ⟨by decide, by decide, by decide⟩ (s := (0, 15)) ⟨by decide, by decide, by decide, by decide⟩ (g := (0, 30)) ⟨by decide, by decide, by decide, by decide⟩ st
  rw [kA] at e1
  rw [kB] at e2
  have e1' : d_fewest [.d (.tuple [.int 31, .int 16]), .d (.tuple [.int 0, .int 30]), .d (.tuple [.int 0, .int 15])] st = .ok (.d (.int 2)) st := e1
  have e2' : d_fewest [.d (.tuple [.int 31, .int 16]), .d (.tuple [.int 0, .int 15]), .d (.tuple [.int 0, .int 30])] st = .ok (.d (.int 4)) st := e2
  simp [qF, g2, gSeq, e1', e2', rep_int.eq (by decide)]
theorem law_true (ns : List Int) (hl : ns.length ≤ 63) : ∃ st', d_law [.d (.list (ns.map .int))] [] = .ok (.d (.bool true)) st' := by
  obtain ⟨hs, s0, e0, hb⟩ := bags_eq ns hl (k := 4) (by decide) []
  obtain ⟨ρ', s1, e1, _, _⟩ := forF_inv (g := gN 1) (F := bodyL) (fun n : Nat => .h n) (fun hs ρ s => ρ.length = 11 ∧ ∀ n ∈ hs, BagAt s n) hs (ρ := [some (.d (.list (ns.map .int))), none, none, none, none, none, none, none, none, none, none]) (st := s0) ⟨rfl, hb⟩
    fun n q ρ s ⟨h18, hb⟩ => by
      match ρ, h18 with
      | [x0, x1, x2, x3, x4, x5, x6, x7, x8, x9, x10], _ =>
        obtain ⟨ρ', st', e, l, k⟩ := body_eq (hb n List.mem_cons_self) (x0 := x0) (x2 := x2) (x3 := x3) (x4 := x4) (x5 := x5) (x6 := x6) (x7 := x7) (x8 := x8) (x9 := x9) (x10 := x10)
        exact ⟨_, ρ', st', rfl, e, l, fun m hm => k m (hb m (List.mem_cons_of_mem _ hm))⟩
  refine ⟨s1.take 0, ?_⟩
  simp [d_law, b_law_eq, defF, e0, e1, qF_eq]
end LK

open PySem PySem.W PyProof.Rows in
set_option maxRecDepth 100000 in
set_option maxHeartbeats 0 in
theorem PySem.Challenge.cw_wheelturns_k04_whole_ways_between_settin_holds : PySem.Challenge.rw_wheelturns_k04_whole_ways_between_settin.Holds := by
  w_on; o_law; k_head; (case hw => w_witness2)
  k_fill
  refine Fx.walkL (l := PySem.Challenge.rw_wheelturns_k04_whole_ways_between_settin) (k := 9) (x := "_law_script") (den := LK.d_law) rfl rfl ⟨rfl, by decide, by decide⟩ (fun w h Y => PySem.W.kIn_of Y) ?F LK.law_true
  case F =>
    intro w mg fa h KX G hmg
    refine' LK.all_ok KX G hmg ?Z_abs ?Z_all ?Z_bool ?Z_enumerate ?Z_int ?Z_isinstance ?Z_len ?Z_list ?Z_max ?Z_min ?Z_range ?Z_set ?Z_str ?Z_sum ?Z_tuple ?C_MAX_LENGTH ?C_MAX_ROWS ?C_TURNS ?E_InvalidLengths ?E_InvalidNumber ?E_InvalidScript ?E_InvalidSetting ?E_InvalidTurn ?D_is_integer ?D_is_turn ?D_next_row ?D_month_lengths ?D_layer_of ?D__law_cell_at ?D__law_draws ?D__law_take ?D__law_after ?D_is_lengths ?D_fits ?D_need_turn ?D_is_script ?D_after_turn ?D__law_bag ?D__law_lengths ?D__law_start ?D__law_run ?D__law_showing ?D_need_lengths ?D_need_setting ?D_need_script ?D_after_script ?D_layers_from ?D__law_bags ?D_turned ?D_walk ?D_need_pair ?D_levels ?D_fewest ?D_shortest ?D_count_shortest ?D__law_way_right ?D_law
    (case Z_abs => k_is)
    (case Z_all => k_is)
    (case Z_bool => k_is)
    (case Z_enumerate => k_is)
    (case Z_int => k_is)
    (case Z_isinstance => k_is)
    (case Z_len => k_is)
    (case Z_list => k_is)
    (case Z_max => k_is)
    (case Z_min => k_is)
    (case Z_range => k_is)
    (case Z_set => k_is)
    (case Z_str => k_is)
    (case Z_sum => k_is)
    (case Z_tuple => k_is)
    (case C_MAX_LENGTH => refine' Fx.IntAt.mk ?xC_MAX_LENGTH; (case xC_MAX_LENGTH => k_is))
    (case C_MAX_ROWS => refine' Fx.IntAt.mk ?xC_MAX_ROWS; (case xC_MAX_ROWS => k_is))
    (case C_TURNS => refine' Fx.StrsAt.mk ?x1C_TURNS ?x2C_TURNS ?x3C_TURNS ?x4C_TURNS; (case x1C_TURNS => k_is); (case x2C_TURNS => k_is); (case x3C_TURNS => decide); (case x4C_TURNS => exact .cons ⟨_, rfl⟩ (.cons ⟨_, rfl⟩ (.cons ⟨_, rfl⟩ (.cons ⟨_, rfl⟩ (.nil))))))
    (case E_InvalidLengths => refine' Fx.ExcAt.mk ?x1E_InvalidLengths ?x2E_InvalidLengths ?x3E_InvalidLengths ?x4E_InvalidLengths ?x5E_InvalidLengths; (case x1E_InvalidLengths => k_is); (case x2E_InvalidLengths => k_exc); (case x3E_InvalidLengths => k_is); (case x4E_InvalidLengths => k_is); (case x5E_InvalidLengths => k_is))
    (case E_InvalidNumber => refine' Fx.ExcAt.mk ?x1E_InvalidNumber ?x2E_InvalidNumber ?x3E_InvalidNumber ?x4E_InvalidNumber ?x5E_InvalidNumber; (case x1E_InvalidNumber => k_is); (case x2E_InvalidNumber => k_exc); (case x3E_InvalidNumber => k_is); (case x4E_InvalidNumber => k_is); (case x5E_InvalidNumber => k_is))
    (case E_InvalidScript => refine' Fx.ExcAt.mk ?x1E_InvalidScript ?x2E_InvalidScript ?x3E_InvalidScript ?x4E_InvalidScript ?x5E_InvalidScript; (case x1E_InvalidScript => k_is); (case x2E_InvalidScript => k_exc); (case x3E_InvalidScript => k_is); (case x4E_InvalidScript => k_is); (case x5E_InvalidScript => k_is))
    (case E_InvalidSetting => refine' Fx.ExcAt.mk ?x1E_InvalidSetting ?x2E_InvalidSetting ?x3E_InvalidSetting ?x4E_InvalidSetting ?x5E_InvalidSetting; (case x1E_InvalidSetting => k_is); (case x2E_InvalidSetting => k_exc); (case x3E_InvalidSetting => k_is); (case x4E_InvalidSetting => k_is); (case x5E_InvalidSetting => k_is))
    (case E_InvalidTurn => refine' Fx.ExcAt.mk ?x1E_InvalidTurn ?x2E_InvalidTurn ?x3E_InvalidTurn ?x4E_InvalidTurn ?x5E_InvalidTurn; (case x1E_InvalidTurn => k_is); (case x2E_InvalidTurn => k_exc); (case x3E_InvalidTurn => k_is); (case x4E_InvalidTurn => k_is); (case x5E_InvalidTurn => k_is))
    (case D_is_integer => refine' Fx.DefAt.mk ?x1D_is_integer ?x2D_is_integer ?x3D_is_integer ?x4D_is_integer; (case x1D_is_integer => k_is); (case x2D_is_integer => k_is); (case x3D_is_integer => k_is); (case x4D_is_integer => k_is))
    (case D_is_turn => refine' Fx.DefAt.mk ?x1D_is_turn ?x2D_is_turn ?x3D_is_turn ?x4D_is_turn; (case x1D_is_turn => k_is); (case x2D_is_turn => k_is); (case x3D_is_turn => k_is); (case x4D_is_turn => k_is))
    (case D_next_row => refine' Fx.DefAt.mk ?x1D_next_row ?x2D_next_row ?x3D_next_row ?x4D_next_row; (case x1D_next_row => k_is); (case x2D_next_row => k_is); (case x3D_next_row => k_is); (case x4D_next_row => k_is))
    (case D_month_lengths => refine' Fx.DefAtB.mk ?x1D_month_lengths ?x2D_month_lengths ?x3D_month_lengths ?x4D_month_lengths ?x5D_month_lengths; (case x1D_month_lengths => k_is); (case x2D_month_lengths => k_is); (case x3D_month_lengths => k_is); (case x4D_month_lengths => k_is); (case x5D_month_lengths => k_is))
    (case D_layer_of => refine' Fx.DefAt.mk ?x1D_layer_of ?x2D_layer_of ?x3D_layer_of ?x4D_layer_of; (case x1D_layer_of => k_is); (case x2D_layer_of => k_is); (case x3D_layer_of => k_is); (case x4D_layer_of => k_is))
    (case D__law_cell_at => refine' Fx.DefAt.mk ?x1D__law_cell_at ?x2D__law_cell_at ?x3D__law_cell_at ?x4D__law_cell_at; (case x1D__law_cell_at => k_is); (case x2D__law_cell_at => k_is); (case x3D__law_cell_at => k_is); (case x4D__law_cell_at => k_is))
    (case D__law_draws => refine' Fx.DefAt.mk ?x1D__law_draws ?x2D__law_draws ?x3D__law_draws ?x4D__law_draws; (case x1D__law_draws => k_is); (case x2D__law_draws => k_is); (case x3D__law_draws => k_is); (case x4D__law_draws => k_is))
    (case D__law_take => refine' Fx.DefAt.mk ?x1D__law_take ?x2D__law_take ?x3D__law_take ?x4D__law_take; (case x1D__law_take => k_is); (case x2D__law_take => k_is); (case x3D__law_take => k_is); (case x4D__law_take => k_is))
    (case D__law_after => refine' Fx.DefAt.mk ?x1D__law_after ?x2D__law_after ?x3D__law_after ?x4D__law_after; (case x1D__law_after => k_is); (case x2D__law_after => k_is); (case x3D__law_after => k_is); (case x4D__law_after => k_is))
    (case D_is_lengths => refine' Fx.DefAt.mk ?x1D_is_lengths ?x2D_is_lengths ?x3D_is_lengths ?x4D_is_lengths; (case x1D_is_lengths => k_is); (case x2D_is_lengths => k_is); (case x3D_is_lengths => k_is); (case x4D_is_lengths => k_is))
    (case D_fits => refine' Fx.DefAt.mk ?x1D_fits ?x2D_fits ?x3D_fits ?x4D_fits; (case x1D_fits => k_is); (case x2D_fits => k_is); (case x3D_fits => k_is); (case x4D_fits => k_is))
    (case D_need_turn => refine' Fx.DefAt.mk ?x1D_need_turn ?x2D_need_turn ?x3D_need_turn ?x4D_need_turn; (case x1D_need_turn => k_is); (case x2D_need_turn => k_is); (case x3D_need_turn => k_is); (case x4D_need_turn => k_is))
    (case D_is_script => refine' Fx.DefAt.mk ?x1D_is_script ?x2D_is_script ?x3D_is_script ?x4D_is_script; (case x1D_is_script => k_is); (case x2D_is_script => k_is); (case x3D_is_script => k_is); (case x4D_is_script => k_is))
    (case D_after_turn => refine' Fx.DefAt.mk ?x1D_after_turn ?x2D_after_turn ?x3D_after_turn ?x4D_after_turn; (case x1D_after_turn => k_is); (case x2D_after_turn => k_is); (case x3D_after_turn => k_is); (case x4D_after_turn => k_is))
    (case D__law_bag => refine' Fx.DefAt.mk ?x1D__law_bag ?x2D__law_bag ?x3D__law_bag ?x4D__law_bag; (case x1D__law_bag => k_is); (case x2D__law_bag => k_is); (case x3D__law_bag => k_is); (case x4D__law_bag => k_is))
    (case D__law_lengths => refine' Fx.DefAt.mk ?x1D__law_lengths ?x2D__law_lengths ?x3D__law_lengths ?x4D__law_lengths; (case x1D__law_lengths => k_is); (case x2D__law_lengths => k_is); (case x3D__law_lengths => k_is); (case x4D__law_lengths => k_is))
    (case D__law_start => refine' Fx.DefAt.mk ?x1D__law_start ?x2D__law_start ?x3D__law_start ?x4D__law_start; (case x1D__law_start => k_is); (case x2D__law_start => k_is); (case x3D__law_start => k_is); (case x4D__law_start => k_is))
    (case D__law_run => refine' Fx.DefAt.mk ?x1D__law_run ?x2D__law_run ?x3D__law_run ?x4D__law_run; (case x1D__law_run => k_is); (case x2D__law_run => k_is); (case x3D__law_run => k_is); (case x4D__law_run => k_is))
    (case D__law_showing => refine' Fx.DefAt.mk ?x1D__law_showing ?x2D__law_showing ?x3D__law_showing ?x4D__law_showing; (case x1D__law_showing => k_is); (case x2D__law_showing => k_is); (case x3D__law_showing => k_is); (case x4D__law_showing => k_is))
    (case D_need_lengths => refine' Fx.DefAt.mk ?x1D_need_lengths ?x2D_need_lengths ?x3D_need_lengths ?x4D_need_lengths; (case x1D_need_lengths => k_is); (case x2D_need_lengths => k_is); (case x3D_need_lengths => k_is); (case x4D_need_lengths => k_is))
    (case D_need_setting => refine' Fx.DefAt.mk ?x1D_need_setting ?x2D_need_setting ?x3D_need_setting ?x4D_need_setting; (case x1D_need_setting => k_is); (case x2D_need_setting => k_is); (case x3D_need_setting => k_is); (case x4D_need_setting => k_is))
    (case D_need_script => refine' Fx.DefAtI.mk ?x1D_need_script ?x2D_need_script ?x3D_need_script ?x4D_need_script ?x5D_need_script; (case x1D_need_script => k_is); (case x2D_need_script => k_is); (case x3D_need_script => k_is); (case x4D_need_script => k_is); (case x5D_need_script => k_is))
    (case D_after_script => refine' Fx.DefAt.mk ?x1D_after_script ?x2D_after_script ?x3D_after_script ?x4D_after_script; (case x1D_after_script => k_is); (case x2D_after_script => k_is); (case x3D_after_script => k_is); (case x4D_after_script => k_is))
    (case D_layers_from => refine' Fx.DefAt.mk ?x1D_layers_from ?x2D_layers_from ?x3D_layers_from ?x4D_layers_from; (case x1D_layers_from => k_is); (case x2D_layers_from => k_is); (case x3D_layers_from => k_is); (case x4D_layers_from => k_is))
    (case D__law_bags => refine' Fx.DefAt.mk ?x1D__law_bags ?x2D__law_bags ?x3D__law_bags ?x4D__law_bags; (case x1D__law_bags => k_is); (case x2D__law_bags => k_is); (case x3D__law_bags => k_is); (case x4D__law_bags => k_is))
    (case D_turned => refine' Fx.DefAt.mk ?x1D_turned ?x2D_turned ?x3D_turned ?x4D_turned; (case x1D_turned => k_is); (case x2D_turned => k_is); (case x3D_turned => k_is); (case x4D_turned => k_is))
    (case D_walk => refine' Fx.DefAt.mk ?x1D_walk ?x2D_walk ?x3D_walk ?x4D_walk; (case x1D_walk => k_is); (case x2D_walk => k_is); (case x3D_walk => k_is); (case x4D_walk => k_is))
    (case D_need_pair => refine' Fx.DefAt.mk ?x1D_need_pair ?x2D_need_pair ?x3D_need_pair ?x4D_need_pair; (case x1D_need_pair => k_is); (case x2D_need_pair => k_is); (case x3D_need_pair => k_is); (case x4D_need_pair => k_is))
    (case D_levels => refine' Fx.DefAt.mk ?x1D_levels ?x2D_levels ?x3D_levels ?x4D_levels; (case x1D_levels => k_is); (case x2D_levels => k_is); (case x3D_levels => k_is); (case x4D_levels => k_is))
    (case D_fewest => refine' Fx.DefAt.mk ?x1D_fewest ?x2D_fewest ?x3D_fewest ?x4D_fewest; (case x1D_fewest => k_is); (case x2D_fewest => k_is); (case x3D_fewest => k_is); (case x4D_fewest => k_is))
    (case D_shortest => refine' Fx.DefAt.mk ?x1D_shortest ?x2D_shortest ?x3D_shortest ?x4D_shortest; (case x1D_shortest => k_is); (case x2D_shortest => k_is); (case x3D_shortest => k_is); (case x4D_shortest => k_is))
    (case D_count_shortest => refine' Fx.DefAt.mk ?x1D_count_shortest ?x2D_count_shortest ?x3D_count_shortest ?x4D_count_shortest; (case x1D_count_shortest => k_is); (case x2D_count_shortest => k_is); (case x3D_count_shortest => k_is); (case x4D_count_shortest => k_is))
    (case D__law_way_right => refine' Fx.DefAt.mk ?x1D__law_way_right ?x2D__law_way_right ?x3D__law_way_right ?x4D__law_way_right; (case x1D__law_way_right => k_is); (case x2D__law_way_right => k_is); (case x3D__law_way_right => k_is); (case x4D__law_way_right => k_is))
    (case D_law => refine' Fx.DefAt.mk ?x1D_law ?x2D_law ?x3D_law ?x4D_law; (case x1D_law => k_is); (case x2D_law => k_is); (case x3D_law => k_is); (case x4D_law => k_is))
