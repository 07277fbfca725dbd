import PyProof.Rows.All
import Wide.All
import OpenK.AllK
import Wide.FinOn
import HandS.ForMost
import HandS.IsInst
import HandS.FStr
import HandS.Wide
import HandS.Style
import HandS.Conv
import HandS.NoneIn
import PySem.Challenge.RW_holdrooms_k00_numbers_of_all_fields
set_option Elab.async false
set_option linter.all false
set_option autoImplicit false
set_option maxRecDepth 100000
set_option maxHeartbeats 4000000
/-! The pure layer: plain data D over the abstract heap; states of slots; expressions, statements, defs as relations on data. -/
namespace Z
open PySem PySem.Spec PyProof.Rows L2

/-- plain data -/
inductive D where
  | non | bl (b : Bool) | int (i : Int) | str (x : Str) | tup (ds : List D) | lst (ds : List D)

section
variable {K : PySem.W.Frag} {H H' : Hp}
mutual
/-- the value bears the datum -/
inductive Rp (K : PySem.W.Frag) (H : Hp) : V → D → Prop
  | non : Rp K H .non .non
  | bl (b : Bool) : Rp K H (.bl b) (.bl b)
  | int (i : Int) : Rp K H (.int i) (.int i)
  | str (x : Str) : Rp K H (.str x) (.str x)
  | tup {a : Addr} {vs : List V} {ds : List D} (h : SqT K H a vs) (r : Rps K H vs ds) : Rp K H (.ref a) (.tup ds)
  | lst {a : Addr} {vs : List V} {ds : List D} (h : H a = some (.lst vs)) (r : Rps K H vs ds) : Rp K H (.ref a) (.lst ds)
inductive Rps (K : PySem.W.Frag) (H : Hp) : List V → List D → Prop
  | nil : Rps K H [] []
  | cons {v : V} {vs : List V} {d : D} {ds : List D} (r : Rp K H v d) (t : Rps K H vs ds) : Rps K H (v :: vs) (d :: ds)
end
theorem sqt_mono {a : Addr} {xs : List V} (e : Same H H') (h : SqT K H a xs) : SqT K H' a xs := by
  rcases h with (h | ⟨o, h⟩) | h
  · exact .inl (.inl (e _ _ h))
  · exact .inl (.inr ⟨o, e _ _ h⟩)
  · exact .inr h
mutual
theorem Rp.mono (e : Same H H') : ∀ {v : V} {d : D}, Rp K H v d → Rp K H' v d
  | _, _, .non => .non
  | _, _, .bl b => .bl b
  | _, _, .int i => .int i
  | _, _, .str x => .str x
  | _, _, .tup h r => .tup (sqt_mono e h) (Rps.mono e r)
  | _, _, .lst h r => .lst (e _ _ h) (Rps.mono e r)
theorem Rps.mono (e : Same H H') : ∀ {vs : List V} {ds : List D}, Rps K H vs ds → Rps K H' vs ds
  | _, _, .nil => .nil
  | _, _, .cons r t => .cons (Rp.mono e r) (Rps.mono e t)
end
theorem Rps.len : ∀ {vs : List V} {ds : List D}, Rps K H vs ds → vs.length = ds.length
  | _, _, .nil => rfl
  | _, _, .cons _ t => by rw [List.length_cons, List.length_cons, Rps.len t]
theorem Rps.get : ∀ {vs : List V} {ds : List D} {i : Nat} {d : D}, Rps K H vs ds → ds[i]? = some d → ∃ v, vs[i]? = some v ∧ Rp K H v d
  | _, _, _, _, .nil, e => by simp at e
  | _, _, 0, _, .cons r _, e => by simp at e; subst e; exact ⟨_, rfl, r⟩
  | _, _, i + 1, d, .cons _ t, e => by
    obtain ⟨v, h1, h2⟩ := Rps.get (i := i) (d := d) t (by simpa using e)
    exact ⟨v, by simpa using h1, h2⟩
theorem Rps.get' : ∀ {vs : List V} {ds : List D} {i : Nat} {v : V}, Rps K H vs ds → vs[i]? = some v → ∃ d, ds[i]? = some d ∧ Rp K H v d
  | _, _, _, _, .nil, e => by simp at e
  | _, _, 0, _, .cons r _, e => by simp at e; subst e; exact ⟨_, rfl, r⟩
  | _, _, i + 1, v, .cons _ t, e => by
    obtain ⟨d, h1, h2⟩ := Rps.get' (i := i) (v := v) t (by simpa using e)
    exact ⟨d, by simpa using h1, h2⟩
theorem Rps.append : ∀ {vs ws : List V} {ds es : List D}, Rps K H vs ds → Rps K H ws es → Rps K H (vs ++ ws) (ds ++ es)
  | _, _, _, _, .nil, s => s
  | _, _, _, _, .cons r t, s => .cons r (Rps.append t s)
theorem Rps.drop : ∀ {vs : List V} {ds : List D} (n : Nat), Rps K H vs ds → Rps K H (vs.drop n) (ds.drop n)
  | _, _, 0, r => r
  | _, _, n + 1, .nil => .nil
  | _, _, n + 1, .cons _ t => Rps.drop n t
theorem Rps.take : ∀ {vs : List V} {ds : List D} (n : Nat), Rps K H vs ds → Rps K H (vs.take n) (ds.take n)
  | _, _, 0, r => .nil
  | _, _, n + 1, .nil => .nil
  | _, _, n + 1, .cons r t => .cons r (Rps.take n t)
theorem Rps.reverse {vs : List V} {ds : List D} (h : Rps K H vs ds) : Rps K H vs.reverse ds.reverse := by
  induction vs generalizing ds with
  | nil => cases h; exact .nil
  | cons v vs ih =>
    cases h with
    | cons r t =>
      rw [List.reverse_cons, List.reverse_cons]
      exact (ih t).append (.cons r .nil)
theorem Rps.dropLast {vs : List V} {ds : List D} (h : Rps K H vs ds) : Rps K H vs.dropLast ds.dropLast := by
  rw [List.dropLast_eq_take, List.dropLast_eq_take, h.len]
  exact h.take _
theorem Rps.one {v : V} {d : D} (h : Rp K H v d) : Rps K H [v] [d] := .cons h .nil
theorem rps_ints : ∀ {vs : List V} {ns : List Int}, Rps K H vs (ns.map D.int) → vs = ns.map V.int
  | _, [], .nil => rfl
  | _, _ :: _, .cons (.int _) t => by rw [List.map_cons, rps_ints t]
theorem ints_rps : ∀ (ns : List Int), Rps K H (ns.map V.int) (ns.map D.int)
  | [] => .nil
  | n :: r => .cons (.int n) (ints_rps r)

/-! ### the states -/
/-- the draws: the digits' lot (the last is the top), the mixed number -/
abbrev DS := List Int × Int
/-- what a slot holds: anything; a datum; a list of ours that may change; the draws -/
inductive Sl where
  | un | v (d : D) | own (ds : List D) | dl | raw (x : V)
/-- what stands around: the heap at the entry, what was known of it, whether there are draws, and where -/
structure Fm where
  H0 : Hp
  Hs0 : Hp
  dl : Bool
  a : Addr
  c : Addr
def DealAt (H : Hp) (a c : Addr) (g : DS) : Prop := H a = some (.lst [.ref c, .int g.2]) ∧ H c = some (.lst (g.1.map V.int))

/-- Hs: what is known for good; H: the heap -/
structure Fin (F : Fm) (Hs H : Hp) (g : DS) : Prop where
  base : ∀ b o, (F.dl = true → b ≠ F.a ∧ b ≠ F.c) → F.H0 b = some o → H b = some o
  ex0 : Same F.Hs0 Hs
  ex : Same Hs H
  new : ∀ x o, Hs x = some o → (∃ o', F.Hs0 x = some o') ∨ F.H0 x = none
  deal : F.dl = true → F.a ≠ F.c ∧ Hs F.a = none ∧ Hs F.c = none ∧ DealAt H F.a F.c g
/-- σ, S: the slots and what they hold; A: where the lists of ours stand (slots of S behind σ's are hidden ones) -/
structure Ok (K : PySem.W.Frag) (F : Fm) (Hs : Hp) (A : Nat → Addr) (H : Hp) (σ : L2.St) (S : List Sl) (g : DS) : Prop extends Fin F Hs H g where
  len : σ.length ≤ S.length
  val : ∀ (i : Nat) (d : D), S[i]? = some (.v d) → ∃ x, σ[i]? = some (some x) ∧ Rp K Hs x d
  own : ∀ (i : Nat) (ds : List D), S[i]? = some (.own ds) → (i < σ.length → σ[i]? = some (some (.ref (A i)))) ∧ Hs (A i) = none ∧ F.H0 (A i) = none ∧ (∃ vs, H (A i) = some (.lst vs) ∧ Rps K Hs vs ds) ∧ (F.dl = true → A i ≠ F.a ∧ A i ≠ F.c)
  sep : ∀ (i j : Nat) (ds es : List D), S[i]? = some (.own ds) → S[j]? = some (.own es) → A i = A j → i = j
  dref : ∀ (i : Nat), S[i]? = some .dl → σ[i]? = some (some (.ref F.a)) ∧ F.dl = true
  raw : ∀ (i : Nat) (x : V), S[i]? = some (.raw x) → σ[i]? = some (some x)
end

section
variable {K : PySem.W.Frag} {F : Fm} {Hs H : Hp} {A : Nat → Addr} {σ : L2.St} {S : List Sl} {g : DS} {p : Addr} {o : HO}
theorem same_new {H : Hp} {p : Addr} {o : HO} (h : H p = none) : Same H (upd H p o) := fun b x e => by
  rw [upd_ne (ne_of_none e h)]
  exact e
theorem same_both {H H' : Hp} {p : Addr} {o : HO} (e : Same H H') (h : H' p = some o) : Same (upd H p o) H' := fun b x q => by
  by_cases hb : b = p
  · subst hb; rw [upd_same] at q; cases q; exact h
  · rw [upd_ne hb] at q; exact e b x q
theorem Fin.free (q : Fin F Hs H g) (h : H p = none) : F.H0 p = none := by
  cases e : F.H0 p with
  | none => rfl
  | some o =>
    by_cases hd : F.dl = true
    · obtain ⟨_, _, _, d1, d2⟩ := q.deal hd
      by_cases ha : p = F.a
      · rw [ha, d1] at h; cases h
      · by_cases hc : p = F.c
        · rw [hc, d2] at h; cases h
        · rw [q.base p o (fun _ => ⟨ha, hc⟩) e] at h; cases h
    · rw [q.base p o (fun z => absurd z hd) e] at h; cases h
theorem Fin.freeS (q : Fin F Hs H g) (h : H p = none) : Hs p = none := by
  cases e : Hs p with
  | none => rfl
  | some o => rw [q.ex p o e] at h; cases h
theorem Fin.neDeal (q : Fin F Hs H g) (h : H p = none) : F.dl = true → p ≠ F.a ∧ p ≠ F.c := fun hd => by
  obtain ⟨_, _, _, d1, d2⟩ := q.deal hd
  refine ⟨fun e => ?_, fun e => ?_⟩
  · rw [e, d1] at h; cases h
  · rw [e, d2] at h; cases h
/-- a new object that is not spoken of yet -/
theorem Fin.grow (q : Fin F Hs H g) (h : H p = none) : Fin F Hs (upd H p o) g where
  base := fun b u hb e => by
    have e1 := q.base b u hb e
    rw [upd_ne (ne_of_none e1 h)]
    exact e1
  ex0 := q.ex0
  ex := q.ex.trans (same_new h)
  new := q.new
  deal := fun hd => by
    obtain ⟨n, s1, s2, d1, d2⟩ := q.deal hd
    refine ⟨n, s1, s2, ?_, ?_⟩
    · rw [upd_ne (ne_of_none d1 h)]; exact d1
    · rw [upd_ne (ne_of_none d2 h)]; exact d2
/-- what stands at p is known from here on -/
theorem Fin.learn (q : Fin F Hs H g) (hs : Hs p = none) (h0 : F.H0 p = none) (h : H p = some o) (hd : F.dl = true → p ≠ F.a ∧ p ≠ F.c) : Fin F (upd Hs p o) H g where
  base := q.base
  ex0 := q.ex0.trans (same_new hs)
  ex := same_both q.ex h
  new := fun x u e => by
    by_cases hx : x = p
    · subst hx; exact .inr h0
    · rw [upd_ne hx] at e; exact q.new x u e
  deal := fun z => by
    obtain ⟨n, s1, s2, d⟩ := q.deal z
    obtain ⟨n1, n2⟩ := hd z
    exact ⟨n, by rw [upd_ne (Ne.symm n1)]; exact s1, by rw [upd_ne (Ne.symm n2)]; exact s2, d⟩
theorem Ok.toFin' (q : Ok K F Hs A H σ S g) : Fin F Hs H g := q.toFin
theorem Ok.grow (q : Ok K F Hs A H σ S g) (h : H p = none) : Ok K F Hs A (upd H p o) σ S g where
  toFin := q.toFin.grow h
  len := q.len
  val := q.val
  own := fun i ds e => by
    obtain ⟨h1, h2, h3, ⟨vs, h4, h5⟩, h6⟩ := q.own i ds e
    exact ⟨h1, h2, h3, ⟨vs, by rw [upd_ne (ne_of_none h4 h)]; exact h4, h5⟩, h6⟩
  sep := q.sep
  dref := q.dref
  raw := q.raw
theorem Ok.learn (q : Ok K F Hs A H σ S g) (hs : Hs p = none) (h0 : F.H0 p = none) (h : H p = some o) (hd : F.dl = true → p ≠ F.a ∧ p ≠ F.c) (hn : ∀ (i : Nat) (ds : List D), S[i]? = some (.own ds) → A i ≠ p) : Ok K F (upd Hs p o) A H σ S g where
  toFin := q.toFin.learn hs h0 h hd
  len := q.len
  val := fun i d e => by
    obtain ⟨x, h1, h2⟩ := q.val i d e
    exact ⟨x, h1, h2.mono (same_new hs)⟩
  own := fun i ds e => by
    obtain ⟨h1, h2, h3, ⟨vs, h4, h5⟩, h6⟩ := q.own i ds e
    exact ⟨h1, by rw [upd_ne (hn i ds e)]; exact h2, h3, ⟨vs, h4, h5.mono (same_new hs)⟩, h6⟩
  sep := q.sep
  dref := q.dref
  raw := q.raw
/-- a new object, known from here on -/
theorem Ok.alloc (q : Ok K F Hs A H σ S g) (h : H p = none) : Ok K F (upd Hs p o) A (upd H p o) σ S g :=
  (q.grow h).learn (q.toFin.freeS h) (q.toFin.free h) upd_same (q.toFin.neDeal h) fun i ds e z => by
    obtain ⟨_, _, _, ⟨vs, h4, _⟩, _⟩ := q.own i ds e
    rw [z, h] at h4; cases h4
theorem Ok.setv (q : Ok K F Hs A H σ S g) {i : Nat} {x : V} {d : D} (hi : i < σ.length) (r : Rp K Hs x d) : Ok K F Hs A H (σ.set i (some x)) (S.set i (.v d)) g where
  toFin := q.toFin
  len := by rw [List.length_set, List.length_set]; exact q.len
  val := fun j e h => by
    by_cases hj : i = j
    · subst hj
      rw [List.getElem?_set_self (Nat.lt_of_lt_of_le hi q.len)] at h
      cases h
      exact ⟨x, List.getElem?_set_self hi, r⟩
    · rw [List.getElem?_set_ne hj] at h
      rw [List.getElem?_set_ne hj]
      exact q.val j e h
  own := fun j ds h => by
    by_cases hj : i = j
    · subst hj
      rw [List.getElem?_set_self (Nat.lt_of_lt_of_le hi q.len)] at h
      cases h
    · rw [List.getElem?_set_ne hj] at h
      obtain ⟨h1, h2⟩ := q.own j ds h
      refine ⟨fun hl => ?_, h2⟩
      rw [List.getElem?_set_ne hj]
      rw [List.length_set] at hl
      exact h1 hl
  sep := fun j k ds es hj hk e => by
    have aux : ∀ (j : Nat) ds, (S.set i (.v d))[j]? = some (.own ds) → S[j]? = some (.own ds) := fun j ds h => by
      by_cases z : i = j
      · subst z; rw [List.getElem?_set_self (Nat.lt_of_lt_of_le hi q.len)] at h; cases h
      · rw [List.getElem?_set_ne z] at h; exact h
    exact q.sep j k ds es (aux j ds hj) (aux k es hk) e
  dref := fun j h => by
    by_cases hj : i = j
    · subst hj; rw [List.getElem?_set_self (Nat.lt_of_lt_of_le hi q.len)] at h; cases h
    · rw [List.getElem?_set_ne hj] at h
      rw [List.getElem?_set_ne hj]
      exact q.dref j h
  raw := fun j x h => by
    by_cases hj : i = j
    · subst hj; rw [List.getElem?_set_self (Nat.lt_of_lt_of_le hi q.len)] at h; cases h
    · rw [List.getElem?_set_ne hj] at h
      rw [List.getElem?_set_ne hj]
      exact q.raw j x h
/-- a slot forgotten -/
theorem Ok.forget (q : Ok K F Hs A H σ S g) (i : Nat) : Ok K F Hs A H σ (S.set i .un) g where
  toFin := q.toFin
  len := by rw [List.length_set]; exact q.len
  val := fun j e h => by
    by_cases hj : i = j
    · subst hj
      by_cases hl : i < S.length
      · rw [List.getElem?_set_self hl] at h; cases h
      · rw [List.getElem?_eq_none (by rw [List.length_set]; omega)] at h; cases h
    · rw [List.getElem?_set_ne hj] at h
      exact q.val j e h
  own := fun j ds h => by
    by_cases hj : i = j
    · subst hj
      by_cases hl : i < S.length
      · rw [List.getElem?_set_self hl] at h; cases h
      · rw [List.getElem?_eq_none (by rw [List.length_set]; omega)] at h; cases h
    · rw [List.getElem?_set_ne hj] at h
      exact q.own j ds h
  sep := fun j k ds es hj hk e => by
    have aux : ∀ (j : Nat) ds, (S.set i .un)[j]? = some (.own ds) → S[j]? = some (.own ds) := fun j ds h => by
      by_cases z : i = j
      · subst z
        by_cases hl : i < S.length
        · rw [List.getElem?_set_self hl] at h; cases h
        · rw [List.getElem?_eq_none (by rw [List.length_set]; omega)] at h; cases h
      · rw [List.getElem?_set_ne z] at h; exact h
    exact q.sep j k ds es (aux j ds hj) (aux k es hk) e
  dref := fun j h => by
    by_cases hj : i = j
    · subst hj
      by_cases hl : i < S.length
      · rw [List.getElem?_set_self hl] at h; cases h
      · rw [List.getElem?_eq_none (by rw [List.length_set]; omega)] at h; cases h
    · rw [List.getElem?_set_ne hj] at h
      exact q.dref j h
  raw := fun j x h => by
    by_cases hj : i = j
    · subst hj
      by_cases hl : i < S.length
      · rw [List.getElem?_set_self hl] at h; cases h
      · rw [List.getElem?_eq_none (by rw [List.length_set]; omega)] at h; cases h
    · rw [List.getElem?_set_ne hj] at h
      exact q.raw j x h
/-- a list of ours, no longer to be changed -/
theorem Ok.freeze (q : Ok K F Hs A H σ S g) {i : Nat} {ds : List D} (hi : S[i]? = some (.own ds)) (hl : i < σ.length) : ∃ Hs', Same Hs Hs' ∧ Ok K F Hs' A H σ (S.set i (.v (.lst ds))) g := by
  obtain ⟨h1, h2, h3, ⟨vs, h4, h5⟩, h6⟩ := q.own i ds hi
  refine ⟨upd Hs (A i) (.lst vs), same_new h2, ?_⟩
  have q1 : Ok K F Hs A H σ (S.set i .un) g := q.forget i
  have hS : i < S.length := (List.getElem?_eq_some_iff.mp hi).1
  have q2 := q1.learn (p := A i) h2 h3 h4 h6 (fun j es e z => by
    have hj : i ≠ j := fun w => by subst w; rw [List.getElem?_set_self hS] at e; cases e
    rw [List.getElem?_set_ne hj] at e
    exact hj (q.sep i j ds es hi e z.symm))
  have q3 := q2.setv (i := i) (x := .ref (A i)) (d := .lst ds) hl (.lst upd_same (h5.mono (same_new h2)))
  rw [List.set_set] at q3
  have e : σ.set i (some (.ref (A i))) = σ := by
    obtain ⟨w1, w2⟩ := List.getElem?_eq_some_iff.mp (h1 hl)
    rw [← w2, List.set_getElem_self]
  rw [e] at q3
  exact q3
/-- a list of ours changed -/
theorem Ok.mut (q : Ok K F Hs A H σ S g) {i : Nat} {ds es : List D} {vs : List V} (hi : S[i]? = some (.own ds)) (r : Rps K Hs vs es) : Ok K F Hs A (upd H (A i) (.lst vs)) σ (S.set i (.own es)) g := by
  obtain ⟨h1, h2, h3, ⟨ws, h4, h5⟩, h6⟩ := q.own i ds hi
  have hS : i < S.length := (List.getElem?_eq_some_iff.mp hi).1
  have sub : ∀ (j : Nat) us, (S.set i (.own es))[j]? = some (.own us) → (j = i ∧ us = es) ∨ (j ≠ i ∧ S[j]? = some (.own us)) := fun j us h => by
    by_cases hj : i = j
    · subst hj; rw [List.getElem?_set_self hS] at h; cases h; exact .inl ⟨rfl, rfl⟩
    · rw [List.getElem?_set_ne hj] at h; exact .inr ⟨fun z => hj z.symm, h⟩
  have own' : ∀ (j : Nat) us, (S.set i (.own es))[j]? = some (.own us) → ∃ us', S[j]? = some (.own us') := fun j us h => by
    rcases sub j us h with ⟨e1, _⟩ | ⟨_, e⟩
    · subst e1; exact ⟨ds, hi⟩
    · exact ⟨us, e⟩
  refine ⟨⟨fun b o hb e => ?_, q.ex0, fun b o e => ?_, q.new, fun hd => ?_⟩, by rw [List.length_set]; exact q.len, fun j d h => ?_, fun j us h => ?_, fun j k us ws hj hk e => ?_, fun j h => ?_, fun j x h => ?_⟩
  · have hb' : b ≠ A i := ne_of_none e h3
    rw [upd_ne hb']
    exact q.base b o hb e
  · have hb' : b ≠ A i := ne_of_none e h2
    rw [upd_ne hb']
    exact q.ex b o e
  · obtain ⟨n, s1, s2, d1, d2⟩ := q.deal hd
    obtain ⟨n1, n2⟩ := h6 hd
    exact ⟨n, s1, s2, by rw [upd_ne (Ne.symm n1)]; exact d1, by rw [upd_ne (Ne.symm n2)]; exact d2⟩
  · by_cases hj : i = j
    · subst hj; rw [List.getElem?_set_self hS] at h; cases h
    · rw [List.getElem?_set_ne hj] at h; exact q.val j d h
  · rcases sub j us h with ⟨e1, e2⟩ | ⟨e1, e2⟩
    · subst e1 e2
      exact ⟨h1, h2, h3, ⟨vs, upd_same, r⟩, h6⟩
    · obtain ⟨k1, k2, k3, ⟨xs, k4, k5⟩, k6⟩ := q.own j us e2
      refine ⟨k1, k2, k3, ⟨xs, ?_, k5⟩, k6⟩
      rw [upd_ne (fun z => e1 (q.sep j i us ds e2 hi z))]
      exact k4
  · obtain ⟨us', e1⟩ := own' j us hj
    obtain ⟨ws', e2⟩ := own' k ws hk
    exact q.sep j k us' ws' e1 e2 e
  · by_cases hj : i = j
    · subst hj; rw [List.getElem?_set_self hS] at h; cases h
    · rw [List.getElem?_set_ne hj] at h; exact q.dref j h
  · by_cases hj : i = j
    · subst hj; rw [List.getElem?_set_self hS] at h; cases h
    · rw [List.getElem?_set_ne hj] at h; exact q.raw j x h
/-- a new list becomes one of ours, at the slot i -/
theorem Ok.setown (q : Ok K F Hs A H σ S g) {i : Nat} {ds : List D} {vs : List V} (hi : i < σ.length) (hs : Hs p = none) (h0 : F.H0 p = none) (h : H p = some (.lst vs)) (hd : F.dl = true → p ≠ F.a ∧ p ≠ F.c)
    (hn : ∀ (j : Nat) (es : List D), S[j]? = some (.own es) → A j ≠ p) (r : Rps K Hs vs ds) : Ok K F Hs (fun n => if n = i then p else A n) H (σ.set i (some (.ref p))) (S.set i (.own ds)) g := by
  have hS : i < S.length := Nat.lt_of_lt_of_le hi q.len
  have sub : ∀ (j : Nat) us, (S.set i (.own ds))[j]? = some (.own us) → (j = i ∧ us = ds) ∨ (j ≠ i ∧ S[j]? = some (.own us)) := fun j us h => by
    by_cases hj : i = j
    · subst hj; rw [List.getElem?_set_self hS] at h; cases h; exact .inl ⟨rfl, rfl⟩
    · rw [List.getElem?_set_ne hj] at h; exact .inr ⟨fun z => hj z.symm, h⟩
  refine ⟨q.toFin, by rw [List.length_set, List.length_set]; exact q.len, fun j d h => ?_, fun j us h' => ?_, fun j k us ws hj hk e => ?_, fun j h => ?_, fun j x h => ?_⟩
  · by_cases hj : i = j
    · subst hj; rw [List.getElem?_set_self hS] at h; cases h
    · rw [List.getElem?_set_ne hj] at h
      rw [List.getElem?_set_ne hj]
      exact q.val j d h
  · rcases sub j us h' with ⟨e1, e2⟩ | ⟨e1, e2⟩
    · subst e1 e2
      rw [if_pos rfl]
      exact ⟨fun _ => List.getElem?_set_self hi, hs, h0, ⟨vs, h, r⟩, hd⟩
    · rw [if_neg e1]
      obtain ⟨k1, k2⟩ := q.own j us e2
      refine ⟨fun hl => ?_, k2⟩
      rw [List.length_set] at hl
      rw [List.getElem?_set_ne (Ne.symm e1)]
      exact k1 hl
  · rcases sub j us hj with ⟨e1, _⟩ | ⟨e1, e2⟩
    · rcases sub k ws hk with ⟨f1, _⟩ | ⟨f1, f2⟩
      · rw [e1, f1]
      · rw [if_pos e1, if_neg f1] at e
        exact absurd e.symm (hn k ws f2)
    · rcases sub k ws hk with ⟨f1, _⟩ | ⟨f1, f2⟩
      · rw [if_neg e1, if_pos f1] at e
        exact absurd e (hn j us e2)
      · rw [if_neg e1, if_neg f1] at e
        exact q.sep j k us ws e2 f2 e
  · by_cases hj : i = j
    · subst hj; rw [List.getElem?_set_self hS] at h; cases h
    · rw [List.getElem?_set_ne hj] at h
      rw [List.getElem?_set_ne hj]
      exact q.dref j h
  · by_cases hj : i = j
    · subst hj; rw [List.getElem?_set_self hS] at h; cases h
    · rw [List.getElem?_set_ne hj] at h
      rw [List.getElem?_set_ne hj]
      exact q.raw j x h
theorem Ok.ownNe (q : Ok K F Hs A H σ S g) (h : H p = none) : ∀ (j : Nat) (es : List D), S[j]? = some (.own es) → A j ≠ p := fun j es e z => by
  obtain ⟨_, _, _, ⟨vs, h4, _⟩, _⟩ := q.own j es e
  rw [z, h] at h4; cases h4
end
end Z
namespace Z
open PySem PySem.Spec PyProof.Rows L2

section
variable {X : Cx}
theorem pe_mono {e : Expr} {t t' : TE} (h : PE X e t) (m : ∀ σ H Q, t' σ H Q → t σ H Q) : PE X e t' := ⟨fun pins s σ H Q I q => h.run pins s σ H Q I (m σ H Q q)⟩
theorem pt_mono {e : Expr} {t t' : TT} (h : PT X e t) (m : ∀ σ H Q, t' σ H Q → t σ H Q) : PT X e t' := ⟨fun pins s σ H Q I q => h.run pins s σ H Q I (m σ H Q q)⟩
theorem pw_mono {e : Expr} {t t' : TT} (h : PW X e t) (m : ∀ σ H Q, t' σ H Q → t σ H Q) : PW X e t' := ⟨fun w pins s σ H Q I q => h.run w pins s σ H Q I (m σ H Q q)⟩
theorem pa_mono {es : List Expr} {t t' : TA} (h : PA X es t) (m : ∀ σ H Q, t' σ H Q → t σ H Q) : PA X es t' := ⟨fun pos pins s σ H Q I q => h.run pos pins s σ H Q I (m σ H Q q)⟩
theorem ps_mono {st : Stmt} {t t' : TS} (h : PS X st t) (m : ∀ D σ H, t' D σ H → t D σ H) : PS X st t' := ⟨fun pins s σ H D I q => h.run pins s σ H D I (m D σ H q)⟩
theorem pss_mono {st : List Stmt} {t t' : TS} (h : PSs X st t) (m : ∀ D σ H, t' D σ H → t D σ H) : PSs X st t' := ⟨fun pins s σ H D I q => h.run pins s σ H D I (m D σ H q)⟩
theorem pss_union {ι : Type} {st : List Stmt} {P : ι → Prop} {t : ι → TS} (h : ∀ i, P i → PSs X st (t i)) : PSs X st (fun D σ H => ∃ i, P i ∧ t i D σ H) := ⟨fun pins s σ H D I ⟨i, p, q⟩ => (h i p).run pins s σ H D I q⟩
theorem pe_union {ι : Type} {e : Expr} {P : ι → Prop} {t : ι → TE} (h : ∀ i, P i → PE X e (t i)) : PE X e (fun σ H Q => ∃ i, P i ∧ t i σ H Q) := ⟨fun pins s σ H Q I ⟨i, p, q⟩ => (h i p).run pins s σ H Q I q⟩
theorem pt_union {ι : Type} {e : Expr} {P : ι → Prop} {t : ι → TT} (h : ∀ i, P i → PT X e (t i)) : PT X e (fun σ H Q => ∃ i, P i ∧ t i σ H Q) := ⟨fun pins s σ H Q I ⟨i, p, q⟩ => (h i p).run pins s σ H Q I q⟩
abbrev eNo : TE := fun _ _ _ => False
abbrev wNo : TT := fun _ _ _ => False
theorem pe_no {e : Expr} : PE X e eNo := ⟨fun _ _ _ _ _ _ h => h.elim⟩
theorem pw_no {e : Expr} : PW X e wNo := ⟨fun _ _ _ _ _ _ _ h => h.elim⟩
end

/-! ### the judgements -/
def kE (K : PySem.W.Frag) (F : Fm) (A : Nat → Addr) (σ : L2.St) (S : List Sl) (g' : DS) (d : D) (Hs : Hp) (Q : VK) : Prop := ∀ v Hs' H', Same Hs Hs' → Ok K F Hs' A H' σ S g' → Rp K Hs' v d → Q v H'
/-- an expression gives d, the draws go from g to g' -/
def tE (K : PySem.W.Frag) (F : Fm) (S : List Sl) (g g' : DS) (d : D) : TE := fun σ H Q => ∃ Hs A, Ok K F Hs A H σ S g ∧ kE K F A σ S g' d Hs Q
/-- a new list -/
def kN (K : PySem.W.Frag) (F : Fm) (A : Nat → Addr) (σ : L2.St) (S : List Sl) (g' : DS) (ds : List D) (Hs : Hp) (Q : VK) : Prop := ∀ p vs Hs' H', Same Hs Hs' → Ok K F Hs' A H' σ S g' → Hs' p = none → F.H0 p = none → H' p = some (.lst vs) →
  (F.dl = true → p ≠ F.a ∧ p ≠ F.c) → (∀ (j : Nat) (es : List D), S[j]? = some (.own es) → A j ≠ p) → Rps K Hs' vs ds → Q (.ref p) H'
def tN (K : PySem.W.Frag) (F : Fm) (S : List Sl) (g g' : DS) (ds : List D) : TE := fun σ H Q => ∃ Hs A, Ok K F Hs A H σ S g ∧ kN K F A σ S g' ds Hs Q
def tTb (K : PySem.W.Frag) (F : Fm) (S : List Sl) (g g' : DS) (b : Bool) : TT := fun σ H Q => ∃ Hs A, Ok K F Hs A H σ S g ∧ ∀ Hs' H', Same Hs Hs' → Ok K F Hs' A H' σ S g' → Q b H'
/-- arguments: data, or the draws -/
inductive Ar where
  | v (d : D) | dl
inductive Ags (K : PySem.W.Frag) (Hs : Hp) (a : Addr) : List V → List Ar → Prop
  | nil : Ags K Hs a [] []
  | v {x : V} {xs : List V} {d : D} {as : List Ar} (r : Rp K Hs x d) (t : Ags K Hs a xs as) : Ags K Hs a (x :: xs) (.v d :: as)
  | dl {xs : List V} {as : List Ar} (t : Ags K Hs a xs as) : Ags K Hs a (.ref a :: xs) (.dl :: as)
theorem Ags.mono {K : PySem.W.Frag} {H H' : Hp} {a : Addr} (e : Same H H') : ∀ {xs : List V} {as : List Ar}, Ags K H a xs as → Ags K H' a xs as
  | _, _, .nil => .nil
  | _, _, .v r t => .v (r.mono e) (t.mono e)
  | _, _, .dl t => .dl (t.mono e)
theorem Ags.len {K : PySem.W.Frag} {H : Hp} {a : Addr} : ∀ {xs : List V} {as : List Ar}, Ags K H a xs as → xs.length = as.length
  | _, _, .nil => rfl
  | _, _, .v _ t => by rw [List.length_cons, List.length_cons, t.len]
  | _, _, .dl t => by rw [List.length_cons, List.length_cons, t.len]
def tAr (K : PySem.W.Frag) (F : Fm) (S : List Sl) (g g' : DS) (as : List Ar) : TA := fun σ H Q => ∃ Hs A, Ok K F Hs A H σ S g ∧ ∀ xs Hs' H', Same Hs Hs' → Ok K F Hs' A H' σ S g' → Ags K Hs' F.a xs as → Q xs H'
def tDs (K : PySem.W.Frag) (F : Fm) (S : List Sl) (g g' : DS) (ds : List D) : TA := fun σ H Q => ∃ Hs A, Ok K F Hs A H σ S g ∧ ∀ xs Hs' H', Same Hs Hs' → Ok K F Hs' A H' σ S g' → Rps K Hs' xs ds → Q xs H'

abbrev XE (X : Cx) (F : Fm) (S : List Sl) (g : DS) (e : Expr) (g' : DS) (d : D) : Prop := PE X e (tE X.K F S g g' d)
abbrev XN (X : Cx) (F : Fm) (S : List Sl) (g : DS) (e : Expr) (g' : DS) (ds : List D) : Prop := PE X e (tN X.K F S g g' ds)
abbrev XT (X : Cx) (F : Fm) (S : List Sl) (g : DS) (e : Expr) (g' : DS) (b : Bool) : Prop := PT X e (tTb X.K F S g g' b)
abbrev XW (X : Cx) (F : Fm) (S : List Sl) (g : DS) (e : Expr) (g' : DS) (b : Bool) : Prop := PW X e (tTb X.K F S g g' b)
abbrev XA (X : Cx) (F : Fm) (S : List Sl) (g : DS) (es : List Expr) (g' : DS) (as : List Ar) : Prop := PA X es (tAr X.K F S g g' as)
abbrev XD (X : Cx) (F : Fm) (S : List Sl) (g : DS) (es : List Expr) (g' : DS) (ds : List D) : Prop := PA X es (tDs X.K F S g g' ds)

section
variable {X : Cx} {F : Fm} {S : List Sl} {g g1 g2 g3 : DS} {a b c e : Expr} {es : List Expr} {x y z d : D} {ds : List D} {as : List Ar} {i j : Int} {pos : Pos}

/-! ### names, constants -/
theorem xe_var (i : Nat) {d : D} {x : Str} {pos : Pos} (h : S[i]? = some (.v d)) (hN : X.N[i]? = some x := by rfl) (hv : Vis X.env.scope x := by first | exact Or.inl rfl | exact Or.inr (Or.inl rfl) | exact Or.inr (Or.inr rfl)) (hd : (x == ("__debug__" : Str)) = false := by decide)
    (hcd : (x == ("__classdict__" : Str)) = false := by decide) : XE X F S g (.Name x pos) g d := pe_mono (pe_var hN hv hd hcd) fun σ H Q ⟨Hs, A, ok, k⟩ => by
  obtain ⟨v, h1, h2⟩ := ok.val i d h
  exact ⟨v, h1, k v Hs H (Same.refl _) ok h2⟩
theorem xe_c {v : V} (h : PE X e (tC v)) (hr : ∀ Hs, Rp X.K Hs v d) : XE X F S g e g d := pe_mono h fun σ H Q ⟨Hs, A, ok, k⟩ => k v Hs H (Same.refl _) ok (hr Hs)
theorem xe_int {i : Int} {j : Nat} {pos : Pos} : XE X F S g (.Constant (.int i) j pos) g (.int i) := xe_c pe_int fun _ => .int i
theorem xe_str {i : Str} {j : Nat} {pos : Pos} : XE X F S g (.Constant (.str i) j pos) g (.str i) := xe_c pe_str fun _ => .str i
theorem xe_bl {i : Bool} {j : Nat} {pos : Pos} : XE X F S g (.Constant (.bool i) j pos) g (.bl i) := xe_c pe_bl fun _ => .bl i
theorem xe_non {j : Nat} {pos : Pos} : XE X F S g (.Constant .none j pos) g .non := xe_c pe_non fun _ => .non
theorem xe_globI {x : Str} {u : Value} {i : Int} {pos : Pos} (hm : X.mg x = some u) (r : RelV (.int i) u) (hg : Gl X x := by rfl) (hd : (x == ("__debug__" : Str)) = false := by decide) : XE X F S g (.Name x pos) g (.int i) := xe_c (pe_glob hg hm r hd) fun _ => .int i
theorem xe_globS {x : Str} {u : Value} {i : Str} {pos : Pos} (hm : X.mg x = some u) (r : RelV (.str i) u) (hg : Gl X x := by rfl) (hd : (x == ("__debug__" : Str)) = false := by decide) : XE X F S g (.Name x pos) g (.str i) := xe_c (pe_glob hg hm r hd) fun _ => .str i
/-- a datum told otherwise -/
theorem XE.to (h : XE X F S g e g1 x) (q : x = y) : XE X F S g e g1 y := q ▸ h
theorem XT.to {b b' : Bool} (h : XT X F S g e g1 b) (q : b = b') : XT X F S g e g1 b' := q ▸ h
theorem XN.to {es : List D} (h : XN X F S g e g1 ds) (q : ds = es) : XN X F S g e g1 es := q ▸ h
/-- a new list, as a datum -/
theorem XN.val (h : XN X F S g e g1 ds) : XE X F S g e g1 (.lst ds) := pe_mono h fun σ H Q ⟨Hs, A, ok, k⟩ => ⟨Hs, A, ok, fun p vs Hs' H' e1 ok1 hp h0 hl hd hn r =>
  k (.ref p) (upd Hs' p (.lst vs)) H' (e1.trans (same_new hp)) (ok1.learn hp h0 hl hd hn) (.lst upd_same (r.mono (same_new hp)))⟩

/-! ### operators -/
/-- two data, then an operation on the values -/
theorem xe_op {op : Operator} {r : R2} (ho : OpR X (binaryOp op) r) (ha : XE X F S g a g1 x) (hb : XE X F S g1 b g2 y)
    (hr : ∀ (A : Nat → Addr) (σ : L2.St) (Hs H : Hp) (u v : V) (Q : VK), Ok X.K F Hs A H σ S g2 → Rp X.K Hs u x → Rp X.K Hs v y → kE X.K F A σ S g2 z Hs Q → r u v H Q) : XE X F S g (.BinOp a op b pos) g2 z :=
  pe_mono (pe_op ho ha hb) fun σ H Q ⟨Hs, A, ok, k⟩ => ⟨Hs, A, ok, fun u Hs1 H1 e1 ok1 r1 => ⟨Hs1, A, ok1, fun v Hs2 H2 e2 ok2 r2 =>
    hr A σ Hs2 H2 u v Q ok2 (r1.mono e2) r2 fun w Hs3 H3 e3 ok3 r3 => k w Hs3 H3 ((e1.trans e2).trans e3) ok3 r3⟩⟩
theorem xe_opI0 {op : Operator} {f : Int → Int → Int} (ho : OpR X (binaryOp op) (rI0 fun i j => .int (f i j))) (ha : XE X F S g a g1 (.int i)) (hb : XE X F S g1 b g2 (.int j)) : XE X F S g (.BinOp a op b pos) g2 (.int (f i j)) :=
  xe_op ho ha hb fun A σ Hs H u v Q ok ru rv k => by
    cases ru; cases rv
    exact ⟨i, j, rfl, rfl, k _ Hs H (Same.refl _) ok (.int _)⟩
theorem xe_opI {op : Operator} {C : Int → Int → Prop} {f : Int → Int → Int} (ho : OpR X (binaryOp op) (rI C fun i j => .int (f i j))) (ha : XE X F S g a g1 (.int i)) (hb : XE X F S g1 b g2 (.int j)) (hc : C i j) : XE X F S g (.BinOp a op b pos) g2 (.int (f i j)) :=
  xe_op ho ha hb fun A σ Hs H u v Q ok ru rv k => by
    cases ru; cases rv
    exact ⟨i, j, rfl, rfl, hc, k _ Hs H (Same.refl _) ok (.int _)⟩
theorem xe_add (ha : XE X F S g a g1 (.int i)) (hb : XE X F S g1 b g2 (.int j)) : XE X F S g (.BinOp a .Add b pos) g2 (.int (i + j)) := xe_opI0 op_add ha hb
theorem xe_sub (ha : XE X F S g a g1 (.int i)) (hb : XE X F S g1 b g2 (.int j)) : XE X F S g (.BinOp a .Sub b pos) g2 (.int (i - j)) := xe_opI0 op_sub ha hb
theorem xe_mul (ha : XE X F S g a g1 (.int i)) (hb : XE X F S g1 b g2 (.int j)) (hc : CMulW i j) : XE X F S g (.BinOp a .Mult b pos) g2 (.int (i * j)) := xe_opI op_mulW ha hb hc
theorem xe_div (ha : XE X F S g a g1 (.int i)) (hb : XE X F S g1 b g2 (.int j)) (hc : CDivW i j) : XE X F S g (.BinOp a .FloorDiv b pos) g2 (.int (i / j)) := xe_opI op_fdivW ha hb hc
theorem xe_mod (ha : XE X F S g a g1 (.int i)) (hb : XE X F S g1 b g2 (.int j)) (hc : 0 < j) : XE X F S g (.BinOp a .Mod b pos) g2 (.int (i % j)) := xe_opI op_mod ha hb hc
theorem xe_neg (ha : XE X F S g a g1 (.int i)) : XE X F S g (.UnaryOp .USub a pos) g1 (.int (-i)) :=
  pe_mono (pe_un un_neg ha) fun σ H Q ⟨Hs, A, ok, k⟩ => ⟨Hs, A, ok, fun u Hs1 H1 e1 ok1 r1 => by
    cases r1
    exact ⟨i, rfl, k _ Hs1 H1 e1 ok1 (.int _)⟩⟩
theorem xe_pow (ha : XE X F S g a g1 (.int i)) (hb : XE X F S g1 b g2 (.int j)) (hc : CPow i j) : XE X F S g (.BinOp a .Pow b pos) g2 (.int (i ^ j.toNat)) := xe_opI op_pow ha hb hc
theorem xe_addS {s t : Str} (ha : XE X F S g a g1 (.str s)) (hb : XE X F S g1 b g2 (.str t)) (hl : s.length + t.length ≤ sizeLine) : XE X F S g (.BinOp a .Add b pos) g2 (.str (s ++ t)) :=
  xe_op op_add_str ha hb fun A σ Hs H u v Q ok ru rv k => by
    cases ru; cases rv
    exact ⟨s, t, rfl, rfl, hl, k _ Hs H (Same.refl _) ok (.str _)⟩
/-- two lists, one behind the other -/
theorem xn_cat {xs ys : List D} (ha : XE X F S g a g1 (.lst xs)) (hb : XE X F S g1 b g2 (.lst ys)) (hl : xs.length + ys.length ≤ sizeLine) : XN X F S g (.BinOp a .Add b pos) g2 (xs ++ ys) :=
  pe_mono (pe_op op_cat ha hb) fun σ H Q ⟨Hs, A, ok, k⟩ => ⟨Hs, A, ok, fun u Hs1 H1 e1 ok1 r1 => ⟨Hs1, A, ok1, fun v Hs2 H2 e2 ok2 r2 => by
    cases r1 with
    | lst h1 t1 =>
      cases r2 with
      | lst h2 t2 =>
        have t1' := t1.mono e2
        refine ⟨_, _, _, _, rfl, rfl, ok2.ex _ _ (e2 _ _ h1), ok2.ex _ _ h2, by rw [t1.len, t2.len]; exact hl, fun p hp => ?_⟩
        exact k p _ Hs2 _ (e1.trans e2) (ok2.grow hp) (ok2.toFin.freeS hp) (ok2.toFin.free hp) upd_same (ok2.toFin.neDeal hp) (ok2.ownNe hp) (t1'.append t2)⟩⟩
/-- a list of ours ahead -/
theorem xn_catO (i : Nat) {xs ys : List D} {x : Str} {px : Pos} (h : S[i]? = some (.own xs)) (hb : XE X F S g b g2 (.lst ys)) (hl : xs.length + ys.length ≤ sizeLine) (hi : i < X.N.length := by first | decide | exact Nat.le_of_ble_eq_true rfl) (hN : X.N[i]? = some x := by rfl) (hv : Vis X.env.scope x := by first | exact Or.inl rfl | exact Or.inr (Or.inl rfl) | exact Or.inr (Or.inr rfl)) (hd : (x == ("__debug__" : Str)) = false := by decide)
    (hcd : (x == ("__classdict__" : Str)) = false := by decide) : XN X F S g (.BinOp (.Name x px) .Add b pos) g2 (xs ++ ys) := by
  refine ⟨fun pins s σ H Q I q => ?_⟩
  refine (pe_op op_cat (pe_var hN hv hd hcd) hb).run pins s σ H Q I ?_
  obtain ⟨Hs, A, ok, k⟩ := q
  obtain ⟨h1, h2, h3, _, h6⟩ := ok.own i xs h
  refine ⟨_, h1 (by rw [I.len]; exact hi), Hs, A, ok, fun v Hs2 H2 e2 ok2 r2 => ?_⟩
  cases r2 with
  | lst l2 t2 =>
    obtain ⟨_, _, _, ⟨vs, h4, h5⟩, _⟩ := ok2.own i xs h
    refine ⟨_, _, _, _, rfl, rfl, h4, ok2.ex _ _ l2, by rw [h5.len, t2.len]; exact hl, fun p hp => ?_⟩
    exact k p _ Hs2 _ e2 (ok2.grow hp) (ok2.toFin.freeS hp) (ok2.toFin.free hp) upd_same (ok2.toFin.neDeal hp) (ok2.ownNe hp) (h5.append t2)

/-! ### comparisons -/
theorem xe_cmp {op : CmpOp} {r : R2} {b' : Bool} (ho : OpR X (compareOp op) r) (hm : behindInMarks op b = false) (ha : XE X F S g a g1 x) (hb : XE X F S g1 b g2 y)
    (hr : ∀ (A : Nat → Addr) (σ : L2.St) (Hs H : Hp) (u v : V) (Q : VK), Ok X.K F Hs A H σ S g2 → Rp X.K Hs u x → Rp X.K Hs v y → Q (.bl b') H → r u v H Q) : XE X F S g (.Compare a [op] [b] pos) g2 (.bl b') :=
  pe_mono (pe_cmpR ho ha hb hm) fun σ H Q ⟨Hs, A, ok, k⟩ => ⟨Hs, A, ok, fun u Hs1 H1 e1 ok1 r1 => ⟨Hs1, A, ok1, fun v Hs2 H2 e2 ok2 r2 =>
    hr A σ Hs2 H2 u v Q ok2 (r1.mono e2) r2 (k _ Hs2 H2 (e1.trans e2) ok2 (.bl _))⟩⟩
theorem xt_cmp {op : CmpOp} {r : R2} {b' : Bool} (ho : OpR X (compareOp op) r) (hm : behindInMarks op b = false) (ha : XE X F S g a g1 x) (hb : XE X F S g1 b g2 y)
    (hr : ∀ (A : Nat → Addr) (σ : L2.St) (Hs H : Hp) (u v : V) (Q : VK), Ok X.K F Hs A H σ S g2 → Rp X.K Hs u x → Rp X.K Hs v y → Q (.bl b') H → r u v H Q) : XT X F S g (.Compare a [op] [b] pos) g2 b' :=
  pt_mono (pt_cmpR ho ha hb hm) fun σ H Q ⟨Hs, A, ok, k⟩ => ⟨Hs, A, ok, fun u Hs1 H1 e1 ok1 r1 => ⟨Hs1, A, ok1, fun v Hs2 H2 e2 ok2 r2 =>
    hr A σ Hs2 H2 u v _ ok2 (r1.mono e2) r2 ⟨b', rfl, k Hs2 H2 (e1.trans e2) ok2⟩⟩⟩
def iLt (i j : Int) : Bool := decide (i < j)
theorem cI {f : Int → Int → Bool} {A : Nat → Addr} {σ : L2.St} {Hs H : Hp} {u v : V} {Q : VK} (ok : Ok X.K F Hs A H σ S g2) (ru : Rp X.K Hs u (.int i)) (rv : Rp X.K Hs v (.int j)) (q : Q (.bl (f i j)) H) : rI0 (fun i j => .bl (f i j)) u v H Q := by
  cases ru; cases rv
  exact ⟨i, j, rfl, rfl, q⟩
theorem xe_lt (ha : XE X F S g a g1 (.int i)) (hb : XE X F S g1 b g2 (.int j)) : XE X F S g (.Compare a [.Lt] [b] pos) g2 (.bl (decide (i < j))) := xe_cmp op_lt (nomark _) ha hb fun _ _ _ _ _ _ _ ok ru rv q => cI ok ru rv q
theorem xe_le (ha : XE X F S g a g1 (.int i)) (hb : XE X F S g1 b g2 (.int j)) : XE X F S g (.Compare a [.LtE] [b] pos) g2 (.bl (decide (i ≤ j))) := xe_cmp op_le (nomark _) ha hb fun _ _ _ _ _ _ _ ok ru rv q => cI ok ru rv q
theorem xe_gt (ha : XE X F S g a g1 (.int i)) (hb : XE X F S g1 b g2 (.int j)) : XE X F S g (.Compare a [.Gt] [b] pos) g2 (.bl (decide (j < i))) := xe_cmp op_gt (nomark _) ha hb fun _ _ _ _ _ _ _ ok ru rv q => cI (f := fun i j => decide (j < i)) ok ru rv q
theorem xe_ge (ha : XE X F S g a g1 (.int i)) (hb : XE X F S g1 b g2 (.int j)) : XE X F S g (.Compare a [.GtE] [b] pos) g2 (.bl (decide (j ≤ i))) := xe_cmp op_ge (nomark _) ha hb fun _ _ _ _ _ _ _ ok ru rv q => cI (f := fun i j => decide (j ≤ i)) ok ru rv q
theorem xt_lt (ha : XE X F S g a g1 (.int i)) (hb : XE X F S g1 b g2 (.int j)) : XT X F S g (.Compare a [.Lt] [b] pos) g2 (decide (i < j)) := xt_cmp op_lt (nomark _) ha hb fun _ _ _ _ _ _ _ ok ru rv q => cI ok ru rv q
theorem xt_le (ha : XE X F S g a g1 (.int i)) (hb : XE X F S g1 b g2 (.int j)) : XT X F S g (.Compare a [.LtE] [b] pos) g2 (decide (i ≤ j)) := xt_cmp op_le (nomark _) ha hb fun _ _ _ _ _ _ _ ok ru rv q => cI ok ru rv q
theorem xt_gt (ha : XE X F S g a g1 (.int i)) (hb : XE X F S g1 b g2 (.int j)) : XT X F S g (.Compare a [.Gt] [b] pos) g2 (decide (j < i)) := xt_cmp op_gt (nomark _) ha hb fun _ _ _ _ _ _ _ ok ru rv q => cI (f := fun i j => decide (j < i)) ok ru rv q
theorem xt_ge (ha : XE X F S g a g1 (.int i)) (hb : XE X F S g1 b g2 (.int j)) : XT X F S g (.Compare a [.GtE] [b] pos) g2 (decide (j ≤ i)) := xt_cmp op_ge (nomark _) ha hb fun _ _ _ _ _ _ _ ok ru rv q => cI (f := fun i j => decide (j ≤ i)) ok ru rv q
theorem dI {i j : Int} : decide (V.int i = V.int j) = decide (i = j) := by
  by_cases h : i = j
  · rw [h]; simp
  · rw [decide_eq_false h, decide_eq_false (fun q => h (V.int.inj q))]
theorem dSt {i j : Str} : decide (V.str i = V.str j) = decide (i = j) := by
  by_cases h : i = j
  · rw [h]; simp
  · rw [decide_eq_false h, decide_eq_false (fun q => h (V.str.inj q))]
theorem cEqI {A : Nat → Addr} {σ : L2.St} {Hs H : Hp} {u v : V} {Q : VK} (ru : Rp X.K Hs u (.int i)) (rv : Rp X.K Hs v (.int j)) (q : Q (.bl (decide (i = j))) H) : rEq u v H Q := by
  cases ru; cases rv
  exact ⟨rfl, by rw [dI]; exact q⟩
theorem cNeI {A : Nat → Addr} {σ : L2.St} {Hs H : Hp} {u v : V} {Q : VK} (ru : Rp X.K Hs u (.int i)) (rv : Rp X.K Hs v (.int j)) (q : Q (.bl (!decide (i = j))) H) : rNe u v H Q := by
  cases ru; cases rv
  exact ⟨rfl, by rw [dI]; exact q⟩
theorem xe_eqI (ha : XE X F S g a g1 (.int i)) (hb : XE X F S g1 b g2 (.int j)) : XE X F S g (.Compare a [.Eq] [b] pos) g2 (.bl (decide (i = j))) := xe_cmp op_eq (nomark _) ha hb fun A σ _ _ _ _ _ ok ru rv q => cEqI (A := A) (σ := σ) ru rv q
theorem xe_neI (ha : XE X F S g a g1 (.int i)) (hb : XE X F S g1 b g2 (.int j)) : XE X F S g (.Compare a [.NotEq] [b] pos) g2 (.bl (!decide (i = j))) := xe_cmp op_ne (nomark _) ha hb fun A σ _ _ _ _ _ ok ru rv q => cNeI (A := A) (σ := σ) ru rv q
theorem xt_eqI (ha : XE X F S g a g1 (.int i)) (hb : XE X F S g1 b g2 (.int j)) : XT X F S g (.Compare a [.Eq] [b] pos) g2 (decide (i = j)) := xt_cmp op_eq (nomark _) ha hb fun A σ _ _ _ _ _ ok ru rv q => cEqI (A := A) (σ := σ) ru rv q
theorem xt_neI (ha : XE X F S g a g1 (.int i)) (hb : XE X F S g1 b g2 (.int j)) : XT X F S g (.Compare a [.NotEq] [b] pos) g2 (!decide (i = j)) := xt_cmp op_ne (nomark _) ha hb fun A σ _ _ _ _ _ ok ru rv q => cNeI (A := A) (σ := σ) ru rv q
theorem xe_eqS {s t : Str} (ha : XE X F S g a g1 (.str s)) (hb : XE X F S g1 b g2 (.str t)) : XE X F S g (.Compare a [.Eq] [b] pos) g2 (.bl (decide (s = t))) := xe_cmp op_eq (nomark _) ha hb fun _ _ _ _ _ _ _ ok ru rv q => by
  cases ru; cases rv
  exact ⟨rfl, by rw [dSt]; exact q⟩
theorem xt_eqS {s t : Str} (ha : XE X F S g a g1 (.str s)) (hb : XE X F S g1 b g2 (.str t)) : XT X F S g (.Compare a [.Eq] [b] pos) g2 (decide (s = t)) := xt_cmp op_eq (nomark _) ha hb fun _ _ _ _ _ _ _ ok ru rv q => by
  cases ru; cases rv
  exact ⟨rfl, by rw [dSt]; exact q⟩
def isNon : D → Bool | .non => true | _ => false
theorem isNon_v {Hs : Hp} {v : V} (r : Rp X.K Hs v d) : decide (v = .non) = isNon d := by
  cases r <;> simp [isNon]
theorem xe_isN {j : Nat} {p : Pos} (ha : XE X F S g a g1 x) : XE X F S g (.Compare a [.Is] [.Constant .none j p] pos) g1 (.bl (isNon x)) := xe_cmp op_isN (nomark _) ha xe_non fun _ _ _ _ _ _ _ ok ru rv q => by
  cases rv
  exact ⟨rfl, by rw [isNon_v ru]; exact q⟩
theorem xt_isN {j : Nat} {p : Pos} (ha : XE X F S g a g1 x) : XT X F S g (.Compare a [.Is] [.Constant .none j p] pos) g1 (isNon x) := xt_cmp op_isN (nomark _) ha xe_non fun _ _ _ _ _ _ _ ok ru rv q => by
  cases rv
  exact ⟨rfl, by rw [isNon_v ru]; exact q⟩
theorem xe_notN {j : Nat} {p : Pos} (ha : XE X F S g a g1 x) : XE X F S g (.Compare a [.IsNot] [.Constant .none j p] pos) g1 (.bl (!isNon x)) := xe_cmp op_notN (nomark _) ha xe_non fun _ _ _ _ _ _ _ ok ru rv q => by
  cases rv
  exact ⟨rfl, by rw [isNon_v ru]; exact q⟩
theorem xt_notN {j : Nat} {p : Pos} (ha : XE X F S g a g1 x) : XT X F S g (.Compare a [.IsNot] [.Constant .none j p] pos) g1 (!isNon x) := xt_cmp op_notN (nomark _) ha xe_non fun _ _ _ _ _ _ _ ok ru rv q => by
  cases rv
  exact ⟨rfl, by rw [isNon_v ru]; exact q⟩
/-- an expression's bool as a test -/
theorem xt_val {b' : Bool} (h : XE X F S g e g1 (.bl b')) (he : ∀ whole, isTrue e X.env whole = (do let v ← whole; standAt e.pos; holding [v] (truthy v)) := by intro _; rfl) : XT X F S g e g1 b' :=
  pt_mono (pt_val h he) fun σ H Q ⟨Hs, A, ok, k⟩ => ⟨Hs, A, ok, fun v Hs1 H1 e1 ok1 r1 => by
    cases r1
    exact ⟨b', rfl, k Hs1 H1 e1 ok1⟩⟩

/-! ### and, or, not, a if t else b -/
variable {b1 b2 : Bool} {rest : List Expr}
theorem XW.tst (h : XW X F S g e g1 b1) : XT X F S g e g1 b1 := h.pt
theorem xw_and1 (ha : XT X F S g a g1 b1) : XW X F S g (.BoolOp .And [a] pos) g1 b1 := pw_and1 ha
theorem xw_or1 (ha : XT X F S g a g1 b1) : XW X F S g (.BoolOp .Or [a] pos) g1 b1 := pw_or1 ha
theorem xw_andT (ha : XT X F S g a g1 b1) (hb : XW X F S g1 (.BoolOp .And (b :: rest) pos) g2 b2) (h1 : b1 = true := by rfl) : XW X F S g (.BoolOp .And (a :: b :: rest) pos) g2 b2 := by
  subst h1
  exact pw_mono (pw_and ha hb) fun σ H Q ⟨Hs, A, ok, k⟩ => ⟨Hs, A, ok, fun Hs1 H1 e1 ok1 => iteT ⟨Hs1, A, ok1, fun Hs2 H2 e2 ok2 => k Hs2 H2 (e1.trans e2) ok2⟩⟩
theorem xw_andF (ha : XT X F S g a g1 b1) (h1 : b1 = false := by rfl) : XW X F S g (.BoolOp .And (a :: b :: rest) pos) g1 false := by
  subst h1
  exact pw_mono (pw_and ha pw_no) fun σ H Q ⟨Hs, A, ok, k⟩ => ⟨Hs, A, ok, fun Hs1 H1 e1 ok1 => iteF (k Hs1 H1 e1 ok1)⟩
theorem xw_orT (ha : XT X F S g a g1 b1) (h1 : b1 = true := by rfl) : XW X F S g (.BoolOp .Or (a :: b :: rest) pos) g1 true := by
  subst h1
  exact pw_mono (pw_or ha pw_no) fun σ H Q ⟨Hs, A, ok, k⟩ => ⟨Hs, A, ok, fun Hs1 H1 e1 ok1 => iteT (k Hs1 H1 e1 ok1)⟩
theorem xw_orF (ha : XT X F S g a g1 b1) (hb : XW X F S g1 (.BoolOp .Or (b :: rest) pos) g2 b2) (h1 : b1 = false := by rfl) : XW X F S g (.BoolOp .Or (a :: b :: rest) pos) g2 b2 := by
  subst h1
  exact pw_mono (pw_or ha hb) fun σ H Q ⟨Hs, A, ok, k⟩ => ⟨Hs, A, ok, fun Hs1 H1 e1 ok1 => iteF ⟨Hs1, A, ok1, fun Hs2 H2 e2 ok2 => k Hs2 H2 (e1.trans e2) ok2⟩⟩
/-- tests that draw nothing -/
theorem xw_and (ha : XT X F S g a g b1) (hb : b1 = true → XW X F S g (.BoolOp .And (b :: rest) pos) g b2) : XW X F S g (.BoolOp .And (a :: b :: rest) pos) g (b1 && b2) := by
  cases b1 with
  | true => exact xw_andT ha (hb rfl)
  | false => exact xw_andF ha
theorem xw_or (ha : XT X F S g a g b1) (hb : b1 = false → XW X F S g (.BoolOp .Or (b :: rest) pos) g b2) : XW X F S g (.BoolOp .Or (a :: b :: rest) pos) g (b1 || b2) := by
  cases b1 with
  | true => exact xw_orT ha
  | false => exact xw_orF ha (hb rfl)
theorem xt_not (ha : XT X F S g a g1 b1) : XT X F S g (.UnaryOp .Not a pos) g1 (!b1) :=
  pt_mono (pt_not ha) fun σ H Q ⟨Hs, A, ok, k⟩ => ⟨Hs, A, ok, k⟩
theorem xe_and1 {op : BoolOp} (ha : XE X F S g a g1 x) : XE X F S g (.BoolOp op [a] pos) g1 x := pe_one ha
theorem xe_andT (ha : XE X F S g a g1 (.bl b1)) (hb : XE X F S g1 (.BoolOp .And (b :: rest) pos) g2 x) (h1 : b1 = true := by rfl) : XE X F S g (.BoolOp .And (a :: b :: rest) pos) g2 x := by
  subst h1
  exact pe_mono (pe_and ha hb) fun σ H Q ⟨Hs, A, ok, k⟩ => ⟨Hs, A, ok, fun v Hs1 H1 e1 ok1 r1 => by
    cases r1
    exact ⟨true, rfl, iteT ⟨Hs1, A, ok1, fun w Hs2 H2 e2 ok2 r2 => k w Hs2 H2 (e1.trans e2) ok2 r2⟩⟩⟩
theorem xe_andF (ha : XE X F S g a g1 (.bl b1)) (h1 : b1 = false := by rfl) : XE X F S g (.BoolOp .And (a :: b :: rest) pos) g1 (.bl false) := by
  subst h1
  exact pe_mono (pe_and ha pe_no) fun σ H Q ⟨Hs, A, ok, k⟩ => ⟨Hs, A, ok, fun v Hs1 H1 e1 ok1 r1 => by
    cases r1
    exact ⟨false, rfl, iteF (k _ Hs1 H1 e1 ok1 (.bl _))⟩⟩
theorem xe_orT (ha : XE X F S g a g1 (.bl b1)) (h1 : b1 = true := by rfl) : XE X F S g (.BoolOp .Or (a :: b :: rest) pos) g1 (.bl true) := by
  subst h1
  exact pe_mono (pe_or ha pe_no) fun σ H Q ⟨Hs, A, ok, k⟩ => ⟨Hs, A, ok, fun v Hs1 H1 e1 ok1 r1 => by
    cases r1
    exact ⟨true, rfl, iteT (k _ Hs1 H1 e1 ok1 (.bl _))⟩⟩
theorem xe_orF (ha : XE X F S g a g1 (.bl b1)) (hb : XE X F S g1 (.BoolOp .Or (b :: rest) pos) g2 x) (h1 : b1 = false := by rfl) : XE X F S g (.BoolOp .Or (a :: b :: rest) pos) g2 x := by
  subst h1
  exact pe_mono (pe_or ha hb) fun σ H Q ⟨Hs, A, ok, k⟩ => ⟨Hs, A, ok, fun v Hs1 H1 e1 ok1 r1 => by
    cases r1
    exact ⟨false, rfl, iteF ⟨Hs1, A, ok1, fun w Hs2 H2 e2 ok2 r2 => k w Hs2 H2 (e1.trans e2) ok2 r2⟩⟩⟩
theorem xe_and (ha : XE X F S g a g (.bl b1)) (hb : b1 = true → XE X F S g (.BoolOp .And (b :: rest) pos) g (.bl b2)) : XE X F S g (.BoolOp .And (a :: b :: rest) pos) g (.bl (b1 && b2)) := by
  cases b1 with
  | true => exact xe_andT ha (hb rfl)
  | false => exact xe_andF ha
theorem xe_or (ha : XE X F S g a g (.bl b1)) (hb : b1 = false → XE X F S g (.BoolOp .Or (b :: rest) pos) g (.bl b2)) : XE X F S g (.BoolOp .Or (a :: b :: rest) pos) g (.bl (b1 || b2)) := by
  cases b1 with
  | true => exact xe_orT ha
  | false => exact xe_orF ha (hb rfl)
theorem xe_not (ha : XE X F S g a g1 (.bl b1)) : XE X F S g (.UnaryOp .Not a pos) g1 (.bl (!b1)) :=
  pe_mono (pe_not ha) fun σ H Q ⟨Hs, A, ok, k⟩ => ⟨Hs, A, ok, fun v Hs1 H1 e1 ok1 r1 => by
    cases r1
    exact ⟨b1, rfl, k _ Hs1 H1 e1 ok1 (.bl _)⟩⟩
theorem xe_ifT (hc : XT X F S g c g1 b1) (ha : XE X F S g1 a g2 x) (h1 : b1 = true := by rfl) : XE X F S g (.IfExp c a b pos) g2 x := by
  subst h1
  exact pe_mono (pe_ifExp hc ha pe_no) fun σ H Q ⟨Hs, A, ok, k⟩ => ⟨Hs, A, ok, fun Hs1 H1 e1 ok1 => iteT ⟨Hs1, A, ok1, fun w Hs2 H2 e2 ok2 r2 => k w Hs2 H2 (e1.trans e2) ok2 r2⟩⟩
theorem xe_ifF (hc : XT X F S g c g1 b1) (hb : XE X F S g1 b g2 x) (h1 : b1 = false := by rfl) : XE X F S g (.IfExp c a b pos) g2 x := by
  subst h1
  exact pe_mono (pe_ifExp hc pe_no hb) fun σ H Q ⟨Hs, A, ok, k⟩ => ⟨Hs, A, ok, fun Hs1 H1 e1 ok1 => iteF ⟨Hs1, A, ok1, fun w Hs2 H2 e2 ok2 r2 => k w Hs2 H2 (e1.trans e2) ok2 r2⟩⟩
theorem xe_if (hc : XT X F S g c g1 b1) (ha : b1 = true → XE X F S g1 a g2 x) (hb : b1 = false → XE X F S g1 b g2 x) : XE X F S g (.IfExp c a b pos) g2 x := by
  cases b1 with
  | true => exact xe_ifT hc (ha rfl)
  | false => exact xe_ifF hc (hb rfl)

/-! ### argument lists, displays -/
theorem le_line {n : Nat} (h : Nat.ble n 1000 = true) : n ≤ sizeLine := Nat.le_trans (Nat.le_of_ble_eq_true h) (by decide)
theorem xd_nil : XD X F S g [] g [] := pa_mono pa_nil fun σ H Q ⟨Hs, A, ok, k⟩ => k [] Hs H (Same.refl _) ok .nil
theorem xd_cons (h : XE X F S g e g1 x) (t : XD X F S g1 es g2 ds) (hs : starEach (e :: es) X.env = (false, eval e X.env) :: starEach es X.env := by rfl) : XD X F S g (e :: es) g2 (x :: ds) :=
  pa_mono (pa_cons h t hs) fun σ H Q ⟨Hs, A, ok, k⟩ => ⟨Hs, A, ok, fun v Hs1 H1 e1 ok1 r1 => ⟨Hs1, A, ok1, fun xs Hs2 H2 e2 ok2 r2 => k (v :: xs) Hs2 H2 (e1.trans e2) ok2 (.cons (r1.mono e2) r2)⟩⟩
theorem xa_nil : XA X F S g [] g [] := pa_mono pa_nil fun σ H Q ⟨Hs, A, ok, k⟩ => k [] Hs H (Same.refl _) ok .nil
theorem xa_cons (h : XE X F S g e g1 x) (t : XA X F S g1 es g2 as) (hs : starEach (e :: es) X.env = (false, eval e X.env) :: starEach es X.env := by rfl) : XA X F S g (e :: es) g2 (.v x :: as) :=
  pa_mono (pa_cons h t hs) fun σ H Q ⟨Hs, A, ok, k⟩ => ⟨Hs, A, ok, fun v Hs1 H1 e1 ok1 r1 => ⟨Hs1, A, ok1, fun xs Hs2 H2 e2 ok2 r2 => k (v :: xs) Hs2 H2 (e1.trans e2) ok2 (.v (r1.mono e2) r2)⟩⟩
/-- the draws as an argument -/
theorem xa_dl (i : Nat) {x : Str} {px : Pos} (h : S[i]? = some .dl) (t : XA X F S g es g2 as) (hs : starEach (.Name x px :: es) X.env = (false, eval (.Name x px) X.env) :: starEach es X.env := by rfl) (hN : X.N[i]? = some x := by rfl) (hv : Vis X.env.scope x := by first | exact Or.inl rfl | exact Or.inr (Or.inl rfl) | exact Or.inr (Or.inr rfl)) (hd : (x == ("__debug__" : Str)) = false := by decide)
    (hcd : (x == ("__classdict__" : Str)) = false := by decide) : XA X F S g (.Name x px :: es) g2 (.dl :: as) :=
  pa_mono (pa_cons (pe_var hN hv hd hcd) t hs) fun σ H Q ⟨Hs, A, ok, k⟩ => ⟨.ref F.a, (ok.dref i h).1, Hs, A, ok, fun xs Hs2 H2 e2 ok2 r2 => k _ Hs2 H2 e2 ok2 (.dl r2)⟩
theorem xe_tup {n : Nat} (h : XD X F S g es g1 ds) (hl : ds.length ≤ sizeLine := by first | decide | exact le_line rfl) : XE X F S g (.Tuple es n pos) g1 (.tup ds) :=
  pe_mono (pe_tup h) fun σ H Q ⟨Hs, A, ok, k⟩ => ⟨Hs, A, ok, fun xs Hs1 H1 e1 ok1 r1 => ⟨by rw [r1.len]; exact hl, fun p hp =>
    k (.ref p) (upd Hs1 p (.tup xs)) _ (e1.trans (same_new (ok1.toFin.freeS hp))) (ok1.alloc hp) (.tup (.inl (.inl upd_same)) (r1.mono (same_new (ok1.toFin.freeS hp))))⟩⟩
theorem xn_lst (h : XD X F S g es g1 ds) (hl : ds.length ≤ sizeLine := by first | decide | exact le_line rfl) : XN X F S g (.List es pos) g1 ds :=
  pe_mono (pe_lst h) fun σ H Q ⟨Hs, A, ok, k⟩ => ⟨Hs, A, ok, fun xs Hs1 H1 e1 ok1 r1 => ⟨by rw [r1.len]; exact hl, fun p hp =>
    k p xs Hs1 _ e1 (ok1.grow hp) (ok1.toFin.freeS hp) (ok1.toFin.free hp) upd_same (ok1.toFin.neDeal hp) (ok1.ownNe hp) r1⟩⟩

/-! ### items -/
def atD (d : D) (i : Int) : Option D := match d with
  | .tup ds => atI ds i
  | .lst ds => atI ds i
  | .str s => (atI s.cps.toList i).map fun c => .str ⟨#[c]⟩
  | _ => none
theorem ixN_len {n m : Nat} (e : n = m) (i : Int) : ixN n i = ixN m i := by rw [e]
theorem Rps.at {Hs : Hp} {vs : List V} {i : Int} (r : Rps X.K Hs vs ds) (h : atI ds i = some d) : ∃ v, atI vs i = some v ∧ Rp X.K Hs v d := by
  unfold atI at h ⊢
  rw [r.len]
  cases e : ixN ds.length i with
  | none => rw [e] at h; cases h
  | some j =>
    rw [e] at h
    exact r.get h
theorem xe_ix (ha : XE X F S g a g1 x) (hb : XE X F S g1 b g2 (.int i)) (h : atD x i = some z) (hz : ∀ s, x = .str s → s.length ≤ sizeLine := by first | (intro _ q; cases q) | skip) (hp : PlainIx b := by exact fun _ _ => rfl) : XE X F S g (.Subscript a b pos) g2 z :=
  pe_mono (pe_ix ix_seq ha hb hp) fun σ H Q ⟨Hs, A, ok, k⟩ => ⟨Hs, A, ok, fun u Hs1 H1 e1 ok1 r1 => ⟨Hs1, A, ok1, fun v Hs2 H2 e2 ok2 r2 => by
    have r1' := r1.mono e2
    cases r2
    cases r1' with
    | tup q r =>
      obtain ⟨w, h1, h2⟩ := r.at (X := X) h
      exact .inr (.inl ⟨_, _, _, _, rfl, rfl, sqt_mono ok2.ex q, h1, k w Hs2 H2 (e1.trans e2) ok2 h2⟩)
    | lst q r =>
      obtain ⟨w, h1, h2⟩ := r.at (X := X) h
      exact .inl ⟨_, _, _, _, rfl, rfl, .inl (.inl (ok2.ex _ _ q)), h1, k w Hs2 H2 (e1.trans e2) ok2 h2⟩
    | str s =>
      have h' : (atI s.cps.toList i).map (fun c => D.str ⟨#[c]⟩) = some z := h
      cases e : atI s.cps.toList i with
      | none => rw [e] at h'; cases h'
      | some w =>
        rw [e] at h'
        cases h'
        exact .inr (.inr ⟨_, _, _, rfl, rfl, hz _ rfl, e, k _ Hs2 H2 (e1.trans e2) ok2 (.str _)⟩)
    | non => cases h
    | bl _ => cases h
    | int _ => cases h⟩⟩
/-- an item of a list of ours -/
theorem xe_ixO (n : Nat) {xs : List D} {x : Str} {px : Pos} (h : S[n]? = some (.own xs)) (hb : XE X F S g b g2 (.int i)) (hz : atI xs i = some z) (hi : n < X.N.length := by first | decide | exact Nat.le_of_ble_eq_true rfl) (hN : X.N[n]? = some x := by rfl) (hv : Vis X.env.scope x := by first | exact Or.inl rfl | exact Or.inr (Or.inl rfl) | exact Or.inr (Or.inr rfl)) (hd : (x == ("__debug__" : Str)) = false := by decide)
    (hcd : (x == ("__classdict__" : Str)) = false := by decide) (hp : PlainIx b := by exact fun _ _ => rfl) : XE X F S g (.Subscript (.Name x px) b pos) g2 z := by
  refine ⟨fun pins s σ H Q I q => ?_⟩
  refine (pe_ix ix_list (pe_var hN hv hd hcd) hb hp).run pins s σ H Q I ?_
  obtain ⟨Hs, A, ok, k⟩ := q
  refine ⟨_, (ok.own n xs h).1 (by rw [I.len]; exact hi), Hs, A, ok, fun v Hs2 H2 e2 ok2 r2 => ?_⟩
  cases r2
  obtain ⟨_, _, _, ⟨vs, h4, h5⟩, _⟩ := ok2.own n xs h
  obtain ⟨w, h1, h2⟩ := h5.at (X := X) hz
  exact ⟨_, _, _, _, rfl, rfl, .inl (.inl h4), h1, k w Hs2 H2 e2 ok2 h2⟩
end
end Z
namespace Z
open PySem PySem.Spec PyProof.Rows L2

/-- how a statement ends -/
inductive Out where
  | nx (S : List Sl) (g : DS) | rt (d : D) (g : DS) | bk (S : List Sl) (g : DS) | ct (S : List Sl) (g : DS) | rd (g : DS)
def Out.stops : Out → Prop
  | .nx _ _ => False
  | _ => True
def post (K : PySem.W.Frag) (F : Fm) (Hs : Hp) (o : Out) (D : Ends) : Prop := match o with
  | .nx S g => ∀ Hs' A H' σ', Same Hs Hs' → Ok K F Hs' A H' σ' S g → D.nx σ' H'
  | .bk S g => ∀ Hs' A H' σ', Same Hs Hs' → Ok K F Hs' A H' σ' S g → D.bk σ' H'
  | .ct S g => ∀ Hs' A H' σ', Same Hs Hs' → Ok K F Hs' A H' σ' S g → D.ct σ' H'
  | .rt d g => ∀ v Hs' H', Same Hs Hs' → Fin F Hs' H' g → Rp K Hs' v d → D.rt v H'
  | .rd g => ∀ a c H', a ≠ c → F.H0 a = none → F.H0 c = none → Same F.H0 H' → DealAt H' a c g → D.rt (.ref a) H'
theorem post_mono {K : PySem.W.Frag} {F : Fm} {Hs Hs1 : Hp} {o : Out} {D : Ends} (e : Same Hs Hs1) (h : post K F Hs o D) : post K F Hs1 o D := by
  cases o with
  | nx S g => exact fun Hs' A H' σ' q => h Hs' A H' σ' (e.trans q)
  | bk S g => exact fun Hs' A H' σ' q => h Hs' A H' σ' (e.trans q)
  | ct S g => exact fun Hs' A H' σ' q => h Hs' A H' σ' (e.trans q)
  | rt d g => exact fun v Hs' H' q => h v Hs' H' (e.trans q)
  | rd g => exact h
def tSt (K : PySem.W.Frag) (F : Fm) (S : List Sl) (g : DS) (o : Out) : TS := fun D σ H => ∃ Hs A, Ok K F Hs A H σ S g ∧ post K F Hs o D
abbrev XS (X : Cx) (F : Fm) (S : List Sl) (g : DS) (st : Stmt) (o : Out) : Prop := PS X st (tSt X.K F S g o)
abbrev XB (X : Cx) (F : Fm) (S : List Sl) (g : DS) (st : List Stmt) (o : Out) : Prop := PSs X st (tSt X.K F S g o)
/-- a target takes a datum -/
def tGt (K : PySem.W.Frag) (F : Fm) (S : List Sl) (d : D) (S' : List Sl) : TG := fun v σ H Q => ∃ Hs A g, Ok K F Hs A H σ S g ∧ Rp K Hs v d ∧ ∀ A' σ', Ok K F Hs A' H σ' S' g → Q σ' H
def tGs (K : PySem.W.Frag) (F : Fm) (S : List Sl) (ds : List D) (S' : List Sl) : TGs := fun vs σ H Q => ∃ Hs A g, Ok K F Hs A H σ S g ∧ Rps K Hs vs ds ∧ ∀ A' σ', Ok K F Hs A' H σ' S' g → Q σ' H
abbrev XG (X : Cx) (F : Fm) (S : List Sl) (tg : Expr) (d : D) (S' : List Sl) : Prop := PG X tg (tGt X.K F S d S')
abbrev XGs (X : Cx) (F : Fm) (S : List Sl) (tg : List Expr) (d : List D) (S' : List Sl) : Prop := PGs X tg (tGs X.K F S d S')

section
variable {X : Cx} {F : Fm} {S S1 S2 : List Sl} {g g1 g2 g3 : DS} {a b c e tg : Expr} {es : List Expr} {x y z d : D} {ds : List D} {i j : Int} {pos : Pos} {st : Stmt} {rest body thn els : List Stmt} {o : Out}
theorem pg_mono {t t' : TG} (h : PG X tg t) (m : ∀ v σ H Q, t' v σ H Q → t v σ H Q) : PG X tg t' := ⟨fun pins s σ H v u Q I r q => h.run pins s σ H v u Q I r (m v σ H Q q)⟩
theorem pgs_mono {t t' : TGs} (h : PGs X es t) (m : ∀ v σ H Q, t' v σ H Q → t v σ H Q) : PGs X es t' := ⟨fun pins s σ H v u Q I r q => h.run pins s σ H v u Q I r (m v σ H Q q)⟩
theorem pg_union {ι : Type} {P : ι → Prop} {t : ι → TG} (h : ∀ i, P i → PG X tg (t i)) : PG X tg (fun v σ H Q => ∃ i, P i ∧ t i v σ H Q) := ⟨fun pins s σ H v u Q I r ⟨i, p, q⟩ => (h i p).run pins s σ H v u Q I r q⟩

/-! ### targets -/
theorem xg_name (i : Nat) {x : Str} {px : Pos} {d : D} (hN : X.N.Nodup) (hi : X.N[i]? = some x := by rfl) (hx : Loc X.env.scope x := by first | exact Or.inl rfl | exact Or.inr rfl) (hf : X.fn x = true ∨ X.env.scope.names.lookup x = some .local := by first | exact .inl rfl | exact .inr rfl) : XG X F S (.Name x px) d (S.set i (.v d)) :=
  ⟨fun pins s σ H v u Q I r ⟨Hs, A, g, ok, rv, k⟩ => (pg_name (pos := px) hN hi hx hf).run pins s σ H v u Q I r (k A _ (ok.setv (by rw [I.len]; exact (List.getElem?_eq_some_iff.mp hi).1) rv))⟩
theorem xgs_nil : XGs X F S [] [] S := pgs_mono pgs_nil fun vs σ H Q ⟨Hs, A, g, ok, rv, k⟩ => by
  cases rv
  exact ⟨rfl, k A σ ok⟩
theorem xgs_cons (h1 : XG X F S e d S1) (h2 : XGs X F S1 es ds S2) (hs : (assignEach (e :: es) X.env).map (·.2) = assign e X.env :: (assignEach es X.env).map (·.2) := by rfl) : XGs X F S (e :: es) (d :: ds) S2 :=
  pgs_mono (pgs_cons h1 h2 hs) fun vs σ H Q ⟨Hs, A, g, ok, rv, k⟩ => by
    cases rv with
    | cons r t => exact ⟨_, _, rfl, Hs, A, g, ok, r, fun A1 σ1 ok1 => ⟨Hs, A1, g, ok1, t, fun A2 σ2 ok2 => k A2 σ2 ok2⟩⟩
theorem xg_tup {n k : Nat} (h : XGs X F S es ds S1) (hl : ds.length = n := by rfl) (hc : X.calm = true := by rfl) (hn : (assignEach es X.env).length = n := by rfl) (hst : (assignEach es X.env).findIdx? (·.1) = none := by rfl) : XG X F S (.Tuple es k pos) (.tup ds) S1 :=
  pg_mono (pg_tup hc h hn hst) fun v σ H Q ⟨Hs, A, g, ok, rv, k⟩ => by
    cases rv with
    | tup q r => exact ⟨_, _, rfl, sqt_mono ok.ex q, by rw [r.len]; exact hl, Hs, A, g, ok, r, k⟩

/-! ### blocks -/
theorem xb_nil : XB X F S g [] (.nx S g) := pss_mono pss_nil fun D σ H ⟨Hs, A, ok, k⟩ => k Hs A H σ (Same.refl _) ok
theorem xb_one (h : XS X F S g st o) : XB X F S g [st] o := pss_one h
theorem xb_cons (h : XS X F S g st (.nx S1 g1)) (t : XB X F S1 g1 rest o) : XB X F S g (st :: rest) o :=
  pss_mono (pss_cons h t) fun D σ H ⟨Hs, A, ok, k⟩ => ⟨Hs, A, ok, fun Hs1 A1 H1 σ1 e1 ok1 => ⟨Hs1, A1, ok1, post_mono e1 k⟩⟩
theorem xb_stop (h : XS X F S g st o) (hs : o.stops := by exact True.intro) : XB X F S g (st :: rest) o :=
  pss_mono (pss_cons h pss_never) fun D σ H ⟨Hs, A, ok, k⟩ => ⟨Hs, A, ok, by
    cases o with
    | nx _ _ => exact hs.elim
    | bk _ _ => exact k
    | ct _ _ => exact k
    | rt _ _ => exact k
    | rd _ => exact k⟩
/-- the slots told otherwise -/
theorem xb_is (h : XB X F S1 g rest o) (e : S = S1) : XB X F S g rest o := e ▸ h
theorem XB.to {o' : Out} (h : XB X F S g rest o) (e : o = o') : XB X F S g rest o' := e ▸ h
theorem XS.to {o' : Out} (h : XS X F S g st o) (e : o = o') : XS X F S g st o' := e ▸ h

/-! ### assignments -/
theorem xs_set (i : Nat) {x : Str} {px : Pos} (h : XE X F S g e g1 d) (hN : X.N.Nodup) (hi : X.N[i]? = some x := by rfl) (hx : Loc X.env.scope x := by first | exact Or.inl rfl | exact Or.inr rfl) (hs : swapsWith e (some (.Name x px)) pos.line X.env = pure false := by rfl)
    (hf : X.fn x = true ∨ X.env.scope.names.lookup x = some .local := by first | exact .inl rfl | exact .inr rfl) : XS X F S g (.Assign [.Name x px] e pos) (.nx (S.set i (.v d)) g1) :=
  ⟨fun pins s σ H D I ⟨Hs, A, ok, k⟩ => (ps_set (pos := pos) hN hi hx h hs hf).run pins s σ H D I ⟨Hs, A, ok, fun v Hs1 H1 e1 ok1 r1 => k Hs1 A H1 _ e1 (ok1.setv (by rw [I.len]; exact (List.getElem?_eq_some_iff.mp hi).1) r1)⟩⟩
theorem xs_setN (i : Nat) {x : Str} {px : Pos} (h : XN X F S g e g1 ds) (hN : X.N.Nodup) (hi : X.N[i]? = some x := by rfl) (hx : Loc X.env.scope x := by first | exact Or.inl rfl | exact Or.inr rfl) (hs : swapsWith e (some (.Name x px)) pos.line X.env = pure false := by rfl)
    (hf : X.fn x = true ∨ X.env.scope.names.lookup x = some .local := by first | exact .inl rfl | exact .inr rfl) : XS X F S g (.Assign [.Name x px] e pos) (.nx (S.set i (.own ds)) g1) :=
  ⟨fun pins s σ H D I ⟨Hs, A, ok, k⟩ => (ps_set (pos := pos) hN hi hx h hs hf).run pins s σ H D I ⟨Hs, A, ok, fun p vs Hs1 H1 e1 ok1 h1 h2 h3 h4 h5 r1 => k Hs1 _ H1 _ e1 (ok1.setown (by rw [I.len]; exact (List.getElem?_eq_some_iff.mp hi).1) h1 h2 h3 h4 h5 r1)⟩⟩
theorem xs_asg (h : XE X F S g e g1 d) (ht : XG X F S tg d S1) (hs : swapsWithSole [tg] e pos.line X.env = pure false := by rfl) (hw : swappedStores [tg] e X.env = pure none := by rfl) (h1 : (assignEach [tg] X.env).map (·.2) = [assign tg X.env] := by rfl) : XS X F S g (.Assign [tg] e pos) (.nx S1 g1) :=
  ps_mono (ps_asg h ht hs hw h1) fun D σ H ⟨Hs, A, ok, k⟩ => ⟨Hs, A, ok, fun v Hs1 H1 e1 ok1 r1 => ⟨Hs1, A, g1, ok1, r1, fun A2 σ2 ok2 => k Hs1 A2 H1 σ2 e1 ok2⟩⟩
/-- x, y = e1, e2, plain local names -/
theorem xs_par (i j : Nat) {x y : Str} {dx dy : D} {px py pt pt2 : Pos} {kt k2 : Nat} (h : XD X F S g [a, b] g1 [dx, dy]) (hN : X.N.Nodup) (hij : i ≠ j := by decide) (hi : X.N[i]? = some x := by rfl) (hj : X.N[j]? = some y := by rfl)
    (hx : X.env.scope.names.lookup x = some .local := by rfl) (hy : X.env.scope.names.lookup y = some .local := by rfl)
    (hw : swappedStores [.Tuple [.Name x px, .Name y py] kt pt] (.Tuple [a, b] k2 pt2) X.env = pure (some [x, y]) := by rfl)
    (hs : swapsWithSole [.Tuple [.Name x px, .Name y py] kt pt] (.Tuple [a, b] k2 pt2) pos.line X.env = pure false := by rfl) (hc : X.calm = true := by rfl) :
    XS X F S g (.Assign [.Tuple [.Name x px, .Name y py] kt pt] (.Tuple [a, b] k2 pt2) pos) (.nx ((S.set i (.v dx)).set j (.v dy)) g1) :=
  ⟨fun pins s σ H D I ⟨Hs, A, ok, k⟩ => (ps_par (pos := pos) hc hN hi hj hij hx hy h hw hs).run pins s σ H D I ⟨Hs, A, ok, fun vs Hs1 H1 e1 ok1 r1 => by
    have li : i < σ.length := by rw [I.len]; exact (List.getElem?_eq_some_iff.mp hi).1
    have lj : j < σ.length := by rw [I.len]; exact (List.getElem?_eq_some_iff.mp hj).1
    cases r1 with
    | cons r t =>
      cases t with
      | cons r' t =>
        cases t
        exact ⟨_, _, rfl, k Hs1 A H1 _ e1 ((ok1.setv li r).setv (by rw [List.length_set]; exact lj) r')⟩⟩⟩
theorem xs_expr (h : XE X F S g e g1 d) (hs : swapsWith e none pos.line X.env = pure false := by rfl) : XS X F S g (.Expr e pos) (.nx S g1) :=
  ps_mono (ps_expr h hs) fun D σ H ⟨Hs, A, ok, k⟩ => ⟨Hs, A, ok, fun v Hs1 H1 e1 ok1 _ => k Hs1 A H1 σ e1 ok1⟩
theorem xs_ret (h : XE X F S g e g1 x) (hx : x = d := by rfl) : XS X F S g (.Return (some e) pos) (.rt d g1) := by
  subst hx
  exact ps_mono (ps_ret h) fun D σ H ⟨Hs, A, ok, k⟩ => ⟨Hs, A, ok, fun v Hs1 H1 e1 ok1 r1 => k v Hs1 H1 e1 ok1.toFin r1⟩
/-- a list of ours is frozen ahead -/
theorem xb_frz (i : Nat) (hi : S[i]? = some (.own ds)) (h : XB X F (S.set i (.v (.lst ds))) g rest o) (hl : i < X.N.length := by first | decide | exact Nat.le_of_ble_eq_true rfl) : XB X F S g rest o :=
  ⟨fun pins s σ H D I ⟨Hs, A, ok, k⟩ => by
    obtain ⟨Hs', e', ok'⟩ := ok.freeze hi (by rw [I.len]; exact hl)
    exact h.run pins s σ H D I ⟨Hs', A, ok', post_mono e' k⟩⟩
theorem xb_frz' (i : Nat) (hi : S[i]? = some (.own ds)) (hl : i < X.N.length) (h : XB X F (S.set i (.v (.lst ds))) g rest o) : XB X F S g rest o := xb_frz i hi h hl
theorem xs_ifT {b1 : Bool} (hc : XT X F S g c g1 b1) (h : XB X F S g1 thn o) (h1 : b1 = true := by rfl) : XS X F S g (.If c thn els pos) o := by
  subst h1
  exact ps_mono (ps_if hc h pss_never) fun D σ H ⟨Hs, A, ok, k⟩ => ⟨Hs, A, ok, fun Hs1 H1 e1 ok1 => iteT ⟨Hs1, A, ok1, post_mono e1 k⟩⟩
theorem xs_ifF {b1 : Bool} (hc : XT X F S g c g1 b1) (h : XB X F S g1 els o) (h1 : b1 = false := by rfl) : XS X F S g (.If c thn els pos) o := by
  subst h1
  exact ps_mono (ps_if hc pss_never h) fun D σ H ⟨Hs, A, ok, k⟩ => ⟨Hs, A, ok, fun Hs1 H1 e1 ok1 => iteF ⟨Hs1, A, ok1, post_mono e1 k⟩⟩
theorem xs_if {b1 : Bool} (hc : XT X F S g c g1 b1) (h1 : b1 = true → XB X F S g1 thn o) (h2 : b1 = false → XB X F S g1 els o) : XS X F S g (.If c thn els pos) o := by
  cases b1 with
  | true => exact xs_ifT hc (h1 rfl)
  | false => exact xs_ifF hc (h2 rfl)
/-- if c: (ends the block), else what follows -/
theorem xb_ifS {b1 : Bool} (hc : XT X F S g c g1 b1) (h1 : b1 = true → XB X F S g1 thn o) (h2 : b1 = false → XB X F S g1 rest o) (hs : o.stops := by exact True.intro) : XB X F S g (.If c thn [] pos :: rest) o := by
  cases b1 with
  | true => exact xb_stop (xs_ifT hc (h1 rfl)) hs
  | false => exact xb_cons (xs_ifF hc xb_nil) (h2 rfl)
theorem xs_pass : XS X F S g (.Pass pos) (.nx S g) := ps_mono ps_pass fun D σ H ⟨Hs, A, ok, k⟩ => k Hs A H σ (Same.refl _) ok
theorem xs_break : XS X F S g (.Break pos) (.bk S g) := ps_mono ps_break fun D σ H ⟨Hs, A, ok, k⟩ => k Hs A H σ (Same.refl _) ok
theorem xs_cont : XS X F S g (.Continue pos) (.ct S g) := ps_mono ps_continue fun D σ H ⟨Hs, A, ok, k⟩ => k Hs A H σ (Same.refl _) ok
/-- x += e, ints -/
theorem xs_augI (n : Nat) {op : Operator} {f : Int → Int → Int} {x : Str} {px : Pos} (ho : PIp X op (ipI f)) (h0 : S[n]? = some (.v (.int i))) (h : XE X F S g e g1 (.int j)) (hN : X.N.Nodup) (hi : X.N[n]? = some x := by rfl) (hx : Loc X.env.scope x := by first | exact Or.inl rfl | exact Or.inr rfl)
    (hf : X.fn x = true ∨ X.env.scope.names.lookup x = some .local := by first | exact .inl rfl | exact .inr rfl) : XS X F S g (.AugAssign (.Name x px) op e pos) (.nx (S.set n (.v (.int (f i j)))) g1) :=
  ⟨fun pins s σ H D I ⟨Hs, A, ok, k⟩ => by
    obtain ⟨v, h1, h2⟩ := ok.val n _ h0
    cases h2
    refine (ps_aug (pos := pos) (pos' := px) hN hi hx h ho hf).run pins s σ H D I ⟨_, h1, Hs, A, ok, fun v Hs1 H1 e1 ok1 r1 => ?_⟩
    cases r1
    exact ⟨i, j, rfl, rfl, k Hs1 A H1 _ e1 (ok1.setv (by rw [I.len]; exact (List.getElem?_eq_some_iff.mp hi).1) (.int _))⟩⟩
/-- xs.append(e), a list of ours -/
theorem xs_append (n : Nat) {x : Str} {px pa pc : Pos} (h0 : S[n]? = some (.own ds)) (h : XE X F S g e g1 d) (hl : ds.length < sizeLine) (hi : n < X.N.length := by first | decide | exact Nat.le_of_ble_eq_true rfl) (hN : X.N[n]? = some x := by rfl) (hv : Vis X.env.scope x := by first | exact Or.inl rfl | exact Or.inr (Or.inl rfl) | exact Or.inr (Or.inr rfl))
    (hd : (x == ("__debug__" : Str)) = false := by decide) (hcd : (x == ("__classdict__" : Str)) = false := by decide)
    (hs : swapsWith (.Call (.Attribute (.Name x px) "append" pa) [e] [] pc) none pos.line X.env = pure false := by rfl) (hst : starEach (e :: []) X.env = (false, eval e X.env) :: starEach [] X.env := by rfl) 
    (hpe : ∀ t, PE X e t → PE X (.Call (.Attribute (.Name x px) "append" pa) [e] [] pc) (tBM X.K "list" rAppend (tVar n) (tCons t tNil))) :
    XS X F S g (.Expr (.Call (.Attribute (.Name x px) "append" pa) [e] [] pc) pos) (.nx (S.set n (.own (ds ++ [d]))) g1) :=
  ⟨fun pins s σ H D I ⟨Hs, A, ok, k⟩ => by
    refine (ps_expr (pos := pos) (hpe _ h) hs).run pins s σ H D I ?_
    obtain ⟨h1, _, _, ⟨vs0, h40, _⟩, _⟩ := ok.own n ds h0
    refine ⟨_, h1 (by rw [I.len]; exact hi), .inl ⟨rfl, _, SqL.of h40⟩, Hs, A, ok, fun v Hs1 H1 e1 ok1 r1 => ?_⟩
    obtain ⟨_, _, _, ⟨vs, h4, h5⟩, _⟩ := ok1.own n ds h0
    exact ⟨_, _, _, rfl, rfl, h4, by rw [h5.len]; exact hl, k Hs1 A _ σ e1 (ok1.mut h0 (h5.append (.cons r1 .nil)))⟩⟩

/-! ### loops -/
/-- a loop's turns over data -/
inductive Fr (step : D → List Sl → DS → Out → Prop) : List D → List Sl → DS → Out → Prop
  | nil {S : List Sl} {g : DS} : Fr step [] S g (.nx S g)
  | next {x : D} {r : List D} {S S1 : List Sl} {g g1 : DS} {o : Out} (h : step x S g (.nx S1 g1)) (t : Fr step r S1 g1 o) : Fr step (x :: r) S g o
  | cont {x : D} {r : List D} {S S1 : List Sl} {g g1 : DS} {o : Out} (h : step x S g (.ct S1 g1)) (t : Fr step r S1 g1 o) : Fr step (x :: r) S g o
  | brk {x : D} {r : List D} {S S1 : List Sl} {g g1 : DS} (h : step x S g (.bk S1 g1)) : Fr step (x :: r) S g (.nx S1 g1)
  | ret {x : D} {r : List D} {S : List Sl} {g g1 : DS} {d : D} (h : step x S g (.rt d g1)) : Fr step (x :: r) S g (.rt d g1)
/-- one turn: the target takes the item, the body runs -/
def Step (X : Cx) (F : Fm) (tg : Expr) (body : List Stmt) (x : D) (S : List Sl) (g : DS) (o : Out) : Prop := ∃ S1, XG X F S tg x S1 ∧ XB X F S1 g body o
def stG (X : Cx) (F : Fm) (tg : Expr) : TG := fun v σ H Q => ∃ p : List Sl × D × List Sl, XG X F p.1 tg p.2.1 p.2.2 ∧ tGt X.K F p.1 p.2.1 p.2.2 v σ H Q
def stB (X : Cx) (F : Fm) (body : List Stmt) : TS := fun D σ H => ∃ p : List Sl × DS × Out, XB X F p.1 p.2.1 body p.2.2 ∧ tSt X.K F p.1 p.2.1 p.2.2 D σ H
theorem stG_ok : PG X tg (stG X F tg) := pg_union fun _ h => h
theorem stB_ok : PSs X body (stB X F body) := pss_union fun _ h => h
/-- what holds ahead of turn i -/
def FrAt (X : Cx) (F : Fm) (tg : Expr) (body : List Stmt) (Hs0 : Hp) (ds : List D) (o : Out) (D : Ends) (i : Nat) (σ : L2.St) (H : Hp) : Prop :=
  ∃ Hs A S g o', Same Hs0 Hs ∧ Ok X.K F Hs A H σ S g ∧ Fr (Step X F tg body) (ds.drop i) S g o' ∧ post X.K F Hs o' D
theorem fr_turn {Hs0 : Hp} {i : Nat} {σ : L2.St} {H : Hp} {D : Ends} {v : V} (p : FrAt X F tg body Hs0 ds o D i σ H) (hx : ds[i]? = some x) (hv : ∀ Hs, Same Hs0 Hs → Rp X.K Hs v x) :
    stG X F tg v σ H fun σ2 H2 => stB X F body { D with nx := FrAt X F tg body Hs0 ds o D (i + 1), ct := FrAt X F tg body Hs0 ds o D (i + 1), bk := D.nx } σ2 H2 := by
  obtain ⟨Hs, A, S, g, o', e, ok, fr, k⟩ := p
  have ed : ds.drop i = x :: ds.drop (i + 1) := by
    obtain ⟨h1, h2⟩ := List.getElem?_eq_some_iff.mp hx
    rw [← h2]
    exact List.drop_eq_getElem_cons h1
  rw [ed] at fr
  have go : ∀ (o1 : Out), Step X F tg body x S g o1 → (∀ Hs1, Same Hs Hs1 → post X.K F Hs1 o1 { D with nx := FrAt X F tg body Hs0 ds o D (i + 1), ct := FrAt X F tg body Hs0 ds o D (i + 1), bk := D.nx }) →
      stG X F tg v σ H fun σ2 H2 => stB X F body { D with nx := FrAt X F tg body Hs0 ds o D (i + 1), ct := FrAt X F tg body Hs0 ds o D (i + 1), bk := D.nx } σ2 H2 := fun o1 ⟨S1, hG, hB⟩ hk =>
    ⟨(S, x, S1), hG, Hs, A, g, ok, hv Hs e, fun A1 σ1 ok1 => ⟨(S1, g, o1), hB, Hs, A1, ok1, hk Hs (Same.refl _)⟩⟩
  cases fr with
  | next h t => exact go _ h fun Hs1 e1 Hs2 A2 H2 σ2 e2 ok2 => ⟨Hs2, A2, _, _, o', (e.trans e1).trans e2, ok2, t, post_mono (e1.trans e2) k⟩
  | cont h t => exact go _ h fun Hs1 e1 Hs2 A2 H2 σ2 e2 ok2 => ⟨Hs2, A2, _, _, o', (e.trans e1).trans e2, ok2, t, post_mono (e1.trans e2) k⟩
  | brk h => exact go _ h fun Hs1 e1 Hs2 A2 H2 σ2 e2 ok2 => k Hs2 A2 H2 σ2 (e1.trans e2) ok2
  | ret h => exact go _ h fun Hs1 e1 v2 Hs2 H2 e2 q2 r2 => k v2 Hs2 H2 (e1.trans e2) q2 r2
theorem fr_end {Hs0 : Hp} {σ : L2.St} {H : Hp} {D : Ends} {n : Nat} (hn : ds.length ≤ n) (p : FrAt X F tg body Hs0 ds o D n σ H) : D.nx σ H := by
  obtain ⟨Hs, A, S, g, o', e, ok, fr, k⟩ := p
  rw [List.drop_eq_nil_of_le hn] at fr
  cases fr
  exact k Hs A H σ (Same.refl _) ok
/-- for target in a list -/
theorem xs_forL (hi : XE X F S g e g1 (.lst ds)) (fr : Fr (Step X F tg body) ds S g1 o) (hp : PassesOwn (model X.prog X.w) X.A X.env X.xe := by exact PassesOwn.never) (hc : X.calm = true := by rfl) (hs : ∀ x, foldedSetIterable e X.env x = pure x := by intro _; rfl) : XS X F S g (.For tg e body [] pos) o :=
  ps_mono (ps_for hp hc (pi_list hi) stG_ok stB_ok hs) fun D σ H ⟨Hs, A, ok, k⟩ => ⟨Hs, A, ok, fun v Hs1 H1 e1 ok1 r1 => by
    cases r1 with
    | lst q r =>
      refine ⟨_, rfl, ⟨_, .inl (.inl (ok1.ex _ _ q))⟩, for_list (K := X.K) (FrAt X F tg body Hs1 ds o D) ⟨Hs1, A, S, g1, o, Same.refl _, ok1, fr, post_mono e1 k⟩ (fun i σ2 H2 _ p => ?_) (fun i x2 σ2 H2 hx p => ?_) (fun σ2 H2 p => fr_end (by rw [r.len]; exact Nat.le_refl _) p)⟩
      · obtain ⟨Hs2, A2, _, _, _, e2, ok2, _⟩ := p
        exact .inl (.inl (ok2.ex _ _ (e2 _ _ q)))
      · obtain ⟨y, hy, ry⟩ := r.get' hx
        exact fr_turn p hy fun Hs2 e2 => ry.mono e2⟩
theorem xs_forT (hi : XE X F S g e g1 (.tup ds)) (fr : Fr (Step X F tg body) ds S g1 o) (hp : PassesOwn (model X.prog X.w) X.A X.env X.xe := by exact PassesOwn.never) (hc : X.calm = true := by rfl) (hs : ∀ x, foldedSetIterable e X.env x = pure x := by intro _; rfl) : XS X F S g (.For tg e body [] pos) o :=
  ps_mono (ps_for hp hc (pi_tup hi) stG_ok stB_ok hs) fun D σ H ⟨Hs, A, ok, k⟩ => ⟨Hs, A, ok, fun v Hs1 H1 e1 ok1 r1 => by
    cases r1 with
    | tup q r =>
      refine ⟨_, rfl, ⟨_, sqt_mono ok1.ex q⟩, for_tup (K := X.K) (FrAt X F tg body Hs1 ds o D) ⟨Hs1, A, S, g1, o, Same.refl _, ok1, fr, post_mono e1 k⟩ (fun i σ2 H2 _ p => ?_) (fun i x2 σ2 H2 hx p => ?_) (fun σ2 H2 p => fr_end (by rw [r.len]; exact Nat.le_refl _) p)⟩
      · obtain ⟨Hs2, A2, _, _, _, e2, ok2, _⟩ := p
        exact sqt_mono (e2.trans ok2.ex) q
      · obtain ⟨y, hy, ry⟩ := r.get' hx
        exact fr_turn p hy fun Hs2 e2 => ry.mono e2⟩
/-- the numbers of a range -/
def rngD (lo : Int) (n : Nat) : List D := (List.range n).map fun i => .int (lo + (i : Nat))
theorem rngD_len {lo : Int} {n : Nat} : (rngD lo n).length = n := by unfold rngD; rw [List.length_map, List.length_range]
theorem rngD_get {lo : Int} {n i : Nat} (h : i < n) : (rngD lo n)[i]? = some (.int (lo + (i : Nat))) := by
  unfold rngD
  rw [List.getElem?_map, List.getElem?_range h]
  rfl
theorem xs_forR1 {p1 : Pos} (hi : XD X F S g [a] g1 [.int j]) (hj : -(2 ^ 62) ≤ j ∧ j < 2 ^ 62) (fr : Fr (Step X F tg body) (rngD 0 j.toNat) S g1 o) (hm : X.mg "range" = none) (hg : Gl X "range" := by rfl) (hp : PassesOwn (model X.prog X.w) X.A X.env X.xe := by exact PassesOwn.never) (hc : X.calm = true := by rfl)
    (hs1 : starEach [a] X.env = [(false, eval a X.env)] := by rfl) (hs : ∀ x, foldedSetIterable (.Call (.Name "range" p1) [a] [] pos) X.env x = pure x := by intro _; rfl) {pos' : Pos} : XS X F S g (.For tg (.Call (.Name "range" p1) [a] [] pos) body [] pos') o :=
  ps_mono (ps_for hp hc (pi_range1 hg hm hi hs1) stG_ok stB_ok hs) fun D σ H ⟨Hs, A, ok, k⟩ => ⟨Hs, A, ok, fun vs Hs1 H1 e1 ok1 r1 => by
    cases r1 with
    | cons r t =>
      cases t
      cases r
      refine ⟨j, rfl, hj.1, hj.2, for_range (FrAt X F tg body Hs1 (rngD 0 j.toNat) o D) ⟨Hs1, A, S, g1, o, Same.refl _, ok1, fr, post_mono e1 k⟩ (fun i σ2 H2 hl p => ?_) (fun σ2 H2 p => fr_end (by rw [rngD_len]; exact Nat.le_refl _) p)⟩
      exact fr_turn p (rngD_get hl) fun Hs2 e2 => .int _⟩
theorem xs_forR2 {p1 : Pos} (hi : XD X F S g [a, b] g1 [.int i, .int j]) (hj : -(2 ^ 62) ≤ i ∧ i < 2 ^ 62 ∧ -(2 ^ 62) ≤ j ∧ j < 2 ^ 62) (fr : Fr (Step X F tg body) (rngD i (j - i).toNat) S g1 o) (hm : X.mg "range" = none) (hg : Gl X "range" := by rfl) (hp : PassesOwn (model X.prog X.w) X.A X.env X.xe := by exact PassesOwn.never) (hc : X.calm = true := by rfl)
    (hs1 : starEach [a, b] X.env = [(false, eval a X.env), (false, eval b X.env)] := by rfl) (hs2 : starEach [b] X.env = [(false, eval b X.env)] := by rfl) (hs : ∀ x, foldedSetIterable (.Call (.Name "range" p1) [a, b] [] pos) X.env x = pure x := by intro _; rfl) {pos' : Pos} : XS X F S g (.For tg (.Call (.Name "range" p1) [a, b] [] pos) body [] pos') o :=
  ps_mono (ps_for hp hc (pi_range2 hg hm hi hs1 hs2) stG_ok stB_ok hs) fun D σ H ⟨Hs, A, ok, k⟩ => ⟨Hs, A, ok, fun vs Hs1 H1 e1 ok1 r1 => by
    cases r1 with
    | cons r t =>
      cases t with
      | cons r' t =>
        cases t
        cases r
        cases r'
        refine ⟨i, j, rfl, hj, for_range (FrAt X F tg body Hs1 (rngD i (j - i).toNat) o D) ⟨Hs1, A, S, g1, o, Same.refl _, ok1, fr, post_mono e1 k⟩ (fun n σ2 H2 hl p => ?_) (fun σ2 H2 p => fr_end (by rw [rngD_len]; exact Nat.le_refl _) p)⟩
        exact fr_turn p (rngD_get hl) fun Hs2 e2 => .int _⟩
/-- a while's turns, counted -/
inductive Wh (X : Cx) (F : Fm) (c : Expr) (body : List Stmt) : Nat → List Sl → DS → Out → Prop
  | stop {S : List Sl} {g g1 : DS} (h : XT X F S g c g1 false) : Wh X F c body 0 S g (.nx S g1)
  | next {n : Nat} {S S1 : List Sl} {g g1 g2 : DS} {o : Out} (h : XT X F S g c g1 true) (hb : XB X F S g1 body (.nx S1 g2)) (t : Wh X F c body n S1 g2 o) : Wh X F c body (n + 1) S g o
  | cont {n : Nat} {S S1 : List Sl} {g g1 g2 : DS} {o : Out} (h : XT X F S g c g1 true) (hb : XB X F S g1 body (.ct S1 g2)) (t : Wh X F c body n S1 g2 o) : Wh X F c body (n + 1) S g o
  | brk {S S1 : List Sl} {g g1 g2 : DS} (h : XT X F S g c g1 true) (hb : XB X F S g1 body (.bk S1 g2)) : Wh X F c body 0 S g (.nx S1 g2)
  | ret {S : List Sl} {g g1 g2 : DS} {d : D} (h : XT X F S g c g1 true) (hb : XB X F S g1 body (.rt d g2)) : Wh X F c body 0 S g (.rt d g2)
def stT (X : Cx) (F : Fm) (c : Expr) : TT := fun σ H Q => ∃ p : List Sl × DS × DS × Bool, XT X F p.1 p.2.1 c p.2.2.1 p.2.2.2 ∧ tTb X.K F p.1 p.2.1 p.2.2.1 p.2.2.2 σ H Q
theorem stT_ok : PT X c (stT X F c) := pt_union fun _ h => h
theorem xs_while {n : Nat} (w : Wh X F c body n S g o) (hp : PassesOwn (model X.prog X.w) X.A X.env X.xe := by exact PassesOwn.never) : XS X F S g (.While c body [] pos) o :=
  ps_mono (ps_while hp stT_ok stB_ok) fun D σ H ⟨Hs, A, ok, k⟩ => by
    refine ⟨fun m σ' H' => ∃ Hs' A' S' g' o', Ok X.K F Hs' A' H' σ' S' g' ∧ Wh X F c body m S' g' o' ∧ post X.K F Hs' o' D, ⟨n, Hs, A, S, g, o, ok, w, k⟩, ?_⟩
    rintro m σ1 H1 ⟨Hs1, A1, S1, g1, o1, ok1, w1, k1⟩
    cases w1 with
    | stop h => exact ⟨(S1, g1, _, false), h, Hs1, A1, ok1, fun Hs2 H2 e2 ok2 => iteF (k1 Hs2 A1 H2 σ1 e2 ok2)⟩
    | @next m' _ S2 _ ga gb _ h hb t => exact ⟨(S1, g1, _, true), h, Hs1, A1, ok1, fun Hs2 H2 e2 ok2 => iteT ⟨fun σ3 H3 => ∃ Hs3 A3, Same Hs2 Hs3 ∧ Ok X.K F Hs3 A3 H3 σ3 S2 gb, fun σ3 H3 ⟨Hs3, A3, e3, ok3⟩ => ⟨m', Nat.lt_succ_self _, Hs3, A3, S2, gb, o1, ok3, t, post_mono (e2.trans e3) k1⟩,
        (S1, ga, .nx S2 gb), hb, Hs2, A1, ok2, fun Hs3 A3 H3 σ3 e3 ok3 => ⟨Hs3, A3, e3, ok3⟩⟩⟩
    | @cont m' _ S2 _ ga gb _ h hb t => exact ⟨(S1, g1, _, true), h, Hs1, A1, ok1, fun Hs2 H2 e2 ok2 => iteT ⟨fun σ3 H3 => ∃ Hs3 A3, Same Hs2 Hs3 ∧ Ok X.K F Hs3 A3 H3 σ3 S2 gb, fun σ3 H3 ⟨Hs3, A3, e3, ok3⟩ => ⟨m', Nat.lt_succ_self _, Hs3, A3, S2, gb, o1, ok3, t, post_mono (e2.trans e3) k1⟩,
        (S1, ga, .ct S2 gb), hb, Hs2, A1, ok2, fun Hs3 A3 H3 σ3 e3 ok3 => ⟨Hs3, A3, e3, ok3⟩⟩⟩
    | @brk _ S2 _ ga gb h hb => exact ⟨(S1, g1, _, true), h, Hs1, A1, ok1, fun Hs2 H2 e2 ok2 => iteT ⟨fun _ _ => False, fun _ _ z => z.elim, (S1, ga, .bk S2 gb), hb, Hs2, A1, ok2, fun Hs3 A3 H3 σ3 e3 ok3 => k1 Hs3 A3 H3 σ3 (e2.trans e3) ok3⟩⟩
    | @ret _ _ ga gb d h hb => exact ⟨(S1, g1, _, true), h, Hs1, A1, ok1, fun Hs2 H2 e2 ok2 => iteT ⟨fun _ _ => False, fun _ _ z => z.elim, (S1, ga, .rt d gb), hb, Hs2, A1, ok2, fun v Hs3 H3 e3 q3 r3 => k1 v Hs3 H3 (e2.trans e3) q3 r3⟩⟩
end
end Z
namespace Z
open PySem PySem.Spec PyProof.Rows L2

/-! ### promises -/
/-- a def that draws nothing: R tells the answer of data -/
def spP (K : PySem.W.Frag) (R : List D → D → Prop) : Sp := fun vs H Q _ => ∃ ds d Hs, R ds d ∧ Same Hs H ∧ Rps K Hs vs ds ∧ ∀ v Hs' H', Same Hs Hs' → Fin ⟨H, Hs, false, 0, 0⟩ Hs' H' ([], 0) → Rp K Hs' v d → Q v H'
/-- a def that draws -/
def spD (K : PySem.W.Frag) (R : List Ar → DS → D → DS → Prop) : Sp := fun vs H Q _ => ∃ as g d g' Hs a c, R as g d g' ∧ Same Hs H ∧ Ags K Hs a vs as ∧ a ≠ c ∧ Hs a = none ∧ Hs c = none ∧ DealAt H a c g ∧
  ∀ v Hs' H', Same Hs Hs' → Fin ⟨H, Hs, true, a, c⟩ Hs' H' g' → Rp K Hs' v d → Q v H'
/-- a def of the text, by its name -/
structure Def (P : Program) (w : World) (K : PySem.W.Frag) (mg : Str → Option Value) (base : Heap) (k : Nat) (x : Str) (st : Stmt) (ps : List Str) (sp : Sp) : Prop where
  ex : ∃ f fd, FnOk P w K mg base CX0 k f fd ps sp ∧ Fun K x x st f fd ∧ mg x = some (.ref f) ∧ Binds K fd ps []
theorem Def.mono {P : Program} {w : World} {K : PySem.W.Frag} {mg : Str → Option Value} {base : Heap} {j k : Nat} {x : Str} {st : Stmt} {ps : List Str} {sp : Sp} (h : Def P w K mg base j x st ps sp) (l : j ≤ k) : Def P w K mg base k x st ps sp := by
  obtain ⟨f, fd, a, b, c, d⟩ := h.ex
  exact ⟨f, fd, a.mono l, b, c, d⟩

def slotsV (N : List Str) (ds : List D) : List Sl := ds.map Sl.v ++ List.replicate (N.length - ds.length) Sl.un
def slotsA (N : List Str) (as : List Ar) : List Sl := as.map (fun | .v d => Sl.v d | .dl => Sl.dl) ++ List.replicate (N.length - as.length) Sl.un

theorem start_len {N : List Str} {vs : List V} (h : vs.length ≤ N.length) : (L2.start N vs).length = N.length := by
  unfold L2.start
  rw [List.length_append, List.length_map, List.length_replicate]
  omega
theorem start_get {N : List Str} {vs : List V} {i : Nat} {v : V} (h : vs[i]? = some v) : (L2.start N vs)[i]? = some (some v) := by
  unfold L2.start
  have hl := (List.getElem?_eq_some_iff.mp h).1
  rw [List.getElem?_append_left (by rw [List.length_map]; exact hl), List.getElem?_map, h]
  rfl
theorem fin_start {H Hs : Hp} {b : Bool} {a c : Addr} {g : DS} (e : Same Hs H) (hd : b = true → a ≠ c ∧ Hs a = none ∧ Hs c = none ∧ DealAt H a c g) : Fin ⟨H, Hs, b, a, c⟩ Hs H g :=
  ⟨fun _ _ _ q => q, Same.refl _, e, fun x o q => .inl ⟨o, q⟩, hd⟩
theorem ok_startV {K : PySem.W.Frag} {N : List Str} {H Hs : Hp} {vs : List V} {ds : List D} {g : DS} (e : Same Hs H) (r : Rps K Hs vs ds) (hl : ds.length ≤ N.length) : Ok K ⟨H, Hs, false, 0, 0⟩ Hs (fun _ => 0) H (L2.start N vs) (slotsV N ds) g := by
  have get : ∀ (i : Nat) (s : Sl), (slotsV N ds)[i]? = some s → s = .un ∨ ∃ d, s = .v d ∧ ds[i]? = some d := fun i s h => by
    unfold slotsV at h
    by_cases hi : i < ds.length
    · rw [List.getElem?_append_left (by rw [List.length_map]; exact hi), List.getElem?_map, List.getElem?_eq_getElem hi] at h
      exact .inr ⟨ds[i], (Option.some.inj h).symm, List.getElem?_eq_getElem hi⟩
    · rw [List.getElem?_append_right (by rw [List.length_map]; omega), List.getElem?_replicate] at h
      split at h
      · exact .inl (Option.some.inj h).symm
      · cases h
  refine ⟨fin_start e (fun z => nomatch z), ?_, fun i d h => ?_, fun i es h => ?_, fun i j es fs h => ?_, fun i h => ?_, fun i x h => ?_⟩
  · rw [start_len (by rw [r.len]; exact hl)]
    unfold slotsV
    rw [List.length_append, List.length_map, List.length_replicate]
    omega
  · rcases get i _ h with q | ⟨d', q, hd⟩
    · cases q
    · cases q
      obtain ⟨v, h1, h2⟩ := r.get hd
      exact ⟨v, start_get h1, h2⟩
  · rcases get i _ h with q | ⟨d', q, hd⟩ <;> cases q
  · rcases get i _ h with q | ⟨d', q, hd⟩ <;> cases q
  · rcases get i _ h with q | ⟨d', q, hd⟩ <;> cases q
  · rcases get i _ h with q | ⟨d', q, hd⟩ <;> cases q
theorem Ags.get {K : PySem.W.Frag} {Hs : Hp} {a : Addr} : ∀ {vs : List V} {as : List Ar} {i : Nat} {x : Ar}, Ags K Hs a vs as → as[i]? = some x → (∀ d, x = .v d → ∃ v, vs[i]? = some v ∧ Rp K Hs v d) ∧ (x = .dl → vs[i]? = some (.ref a))
  | _, _, _, _, .nil, h => by simp at h
  | _, _, 0, _, .v r t, h => by
    simp at h; subst h
    exact ⟨fun d e => by cases e; exact ⟨_, rfl, r⟩, (fun e => nomatch e)⟩
  | _, _, 0, _, .dl t, h => by
    simp at h; subst h
    exact ⟨(fun d e => nomatch e), fun _ => rfl⟩
  | _, _, i + 1, x, .v r t, h => by
    obtain ⟨h1, h2⟩ := Ags.get (i := i) (x := x) t (by simpa using h)
    exact ⟨fun d e => by simpa using h1 d e, fun e => by simpa using h2 e⟩
  | _, _, i + 1, x, .dl t, h => by
    obtain ⟨h1, h2⟩ := Ags.get (i := i) (x := x) t (by simpa using h)
    exact ⟨fun d e => by simpa using h1 d e, fun e => by simpa using h2 e⟩
theorem ok_startA {K : PySem.W.Frag} {N : List Str} {H Hs : Hp} {vs : List V} {as : List Ar} {g : DS} {a c : Addr} (e : Same Hs H) (r : Ags K Hs a vs as) (hl : as.length ≤ N.length) (h1 : a ≠ c) (h2 : Hs a = none) (h3 : Hs c = none) (h4 : DealAt H a c g) :
    Ok K ⟨H, Hs, true, a, c⟩ Hs (fun _ => 0) H (L2.start N vs) (slotsA N as) g := by
  have get : ∀ (i : Nat) (s : Sl), (slotsA N as)[i]? = some s → s = .un ∨ (∃ d, s = .v d ∧ as[i]? = some (.v d)) ∨ (s = .dl ∧ as[i]? = some .dl) := fun i s h => by
    unfold slotsA at h
    by_cases hi : i < as.length
    · rw [List.getElem?_append_left (by rw [List.length_map]; exact hi), List.getElem?_map, List.getElem?_eq_getElem hi] at h
      have h' := Option.some.inj h
      cases q : as[i] with
      | v d => rw [q] at h'; exact .inr (.inl ⟨d, h'.symm, by rw [List.getElem?_eq_getElem hi, q]⟩)
      | dl => rw [q] at h'; exact .inr (.inr ⟨h'.symm, by rw [List.getElem?_eq_getElem hi, q]⟩)
    · rw [List.getElem?_append_right (by rw [List.length_map]; omega), List.getElem?_replicate] at h
      split at h
      · exact .inl (Option.some.inj h).symm
      · cases h
  refine ⟨fin_start e fun _ => ⟨h1, h2, h3, h4⟩, ?_, fun i d h => ?_, fun i es h => ?_, fun i j es fs h => ?_, fun i h => ?_, fun i x h => ?_⟩
  · rw [start_len (by rw [r.len]; exact hl)]
    unfold slotsA
    rw [List.length_append, List.length_map, List.length_replicate]
    omega
  · rcases get i _ h with q | ⟨d', q, hd⟩ | ⟨q, _⟩
    · cases q
    · cases q
      obtain ⟨v, h1, h2⟩ := (r.get hd).1 _ rfl
      exact ⟨v, start_get h1, h2⟩
    · cases q
  · rcases get i _ h with q | ⟨d', q, hd⟩ | ⟨q, _⟩ <;> cases q
  · rcases get i _ h with q | ⟨d', q, hd⟩ | ⟨q, _⟩ <;> cases q
  · rcases get i _ h with q | ⟨d', q, hd⟩ | ⟨q, hd⟩
    · cases q
    · cases q
    · exact ⟨start_get ((r.get hd).2 rfl), rfl⟩
  · rcases get i _ h with q | ⟨d', q, hd⟩ | ⟨q, _⟩ <;> cases q

section
variable {P : Program} {w : World} {K : PySem.W.Frag} {mg : Str → Option Value} {base : Heap} {x : Str} {st : Stmt} {f : Addr} {fd : FuncData} {N ps : List Str} {k : Nat}
/-- a def that draws nothing keeps its promise -/
theorem fnP {R : List D → D → Prop} (F : Fun K x x st f fd) (sc : FnScope N ps (defScope st)) (hlen : ∀ ds d, R ds d → ds.length = ps.length)
    (hb : ∀ (cdv : Value) (A : Around) (outer : List Env) (s : Shared) (H : Hp) (E : XK) (ds : List D) (d : D), Room k (A.deeper (envOfC x (defScope st) s.heap.objs.size f cdv)) → R ds d → ∀ Fm : Fm, Fm.dl = false →
      XB (cxOf CX0 P w K mg base N x (defScope st) f cdv A outer s H E).nox Fm (slotsV N ds) ([], 0) (defBody st) (.rt d ([], 0))) : FnOk P w K mg base CX0 (k + 1) f fd ps (spP K R) := by
  have hpl : ps.length ≤ N.length := by have := congrArg List.length sc.pre; rw [List.length_take] at this; omega
  refine F.ok sc (fun vs H Q E h => ?_) (fun cdv A outer s H vs Q E hr h => ?_)
  · obtain ⟨ds, d, Hs, hR, _, r, _⟩ := h
    rw [r.len]; exact hlen ds d hR
  · obtain ⟨ds, d, Hs, hR, e, r, q⟩ := h
    refine ⟨_, hb cdv A outer s H E ds d hr hR ⟨H, Hs, false, 0, 0⟩ rfl, Hs, fun _ => 0, ok_startV e r (by rw [hlen ds d hR]; exact hpl), fun v Hs' H' e1 fin r1 => q v Hs' H' e1 fin r1⟩
/-- a def that draws keeps its promise -/
theorem fnD {R : List Ar → DS → D → DS → Prop} (F : Fun K x x st f fd) (sc : FnScope N ps (defScope st)) (hlen : ∀ as g d g', R as g d g' → as.length = ps.length)
    (hb : ∀ (cdv : Value) (A : Around) (outer : List Env) (s : Shared) (H : Hp) (E : XK) (as : List Ar) (g : DS) (d : D) (g' : DS), Room k (A.deeper (envOfC x (defScope st) s.heap.objs.size f cdv)) → R as g d g' → ∀ Fm : Fm, Fm.dl = true →
      XB (cxOf CX0 P w K mg base N x (defScope st) f cdv A outer s H E).nox Fm (slotsA N as) g (defBody st) (.rt d g')) : FnOk P w K mg base CX0 (k + 1) f fd ps (spD K R) := by
  have hpl : ps.length ≤ N.length := by have := congrArg List.length sc.pre; rw [List.length_take] at this; omega
  refine F.ok sc (fun vs H Q E h => ?_) (fun cdv A outer s H vs Q E hr h => ?_)
  · obtain ⟨as, g, d, g', Hs, a, c, hR, _, r, _⟩ := h
    rw [r.len]; exact hlen _ _ _ _ hR
  · obtain ⟨as, g, d, g', Hs, a, c, hR, e, r, h1, h2, h3, h4, q⟩ := h
    refine ⟨_, hb cdv A outer s H E as g d g' hr hR ⟨H, Hs, true, a, c⟩ rfl, Hs, fun _ => 0, ok_startA e r (by rw [hlen _ _ _ _ hR]; exact hpl) h1 h2 h3 h4, fun v Hs' H' e1 fin r1 => q v Hs' H' e1 fin r1⟩
end

section
variable {K : PySem.W.Frag} {F : Fm} {Hs Hs' H H' : Hp} {A : Nat → Addr} {σ : L2.St} {S : List Sl} {g g' : DS}
/-- behind a call that draws nothing -/
theorem Ok.after (q : Ok K F Hs A H σ S g) (e : Same Hs Hs') (f : Fin ⟨H, Hs, false, 0, 0⟩ Hs' H' g') : Ok K F Hs' A H' σ S g := by
  have keep : ∀ b o, H b = some o → H' b = some o := fun b o h => f.base b o (fun z => nomatch z) h
  have none' : ∀ b o, H b = some o → Hs b = none → Hs' b = none := fun b o h h2 => by
    cases z : Hs' b with
    | none => rfl
    | some u =>
      rcases f.new b u z with ⟨o', y⟩ | y
      · have y' : Hs b = some o' := y
        rw [h2] at y'; cases y'
      · have y' : H b = none := y
        rw [y'] at h; cases h
  refine ⟨⟨fun b o hb h => keep b o (q.base b o hb h), q.ex0.trans e, f.ex, fun x o h => ?_, fun hd => ?_⟩, q.len, fun i d h => ?_, fun i ds h => ?_, q.sep, q.dref, q.raw⟩
  · rcases f.new x o h with ⟨o', y⟩ | y
    · exact q.new x o' y
    · exact .inr (q.toFin.free y)
  · obtain ⟨n, s1, s2, d1, d2⟩ := q.deal hd
    exact ⟨n, none' _ _ d1 s1, none' _ _ d2 s2, keep _ _ d1, keep _ _ d2⟩
  · obtain ⟨x, h1, h2⟩ := q.val i d h
    exact ⟨x, h1, h2.mono e⟩
  · obtain ⟨h1, h2, h3, ⟨vs, h4, h5⟩, h6⟩ := q.own i ds h
    exact ⟨h1, none' _ _ h4 h2, h3, ⟨vs, keep _ _ h4, h5.mono e⟩, h6⟩
/-- behind a call that draws -/
theorem Ok.afterD (q : Ok K F Hs A H σ S g) (hd : F.dl = true) (e : Same Hs Hs') (f : Fin ⟨H, Hs, true, F.a, F.c⟩ Hs' H' g') : Ok K F Hs' A H' σ S g' := by
  have keep : ∀ b o, b ≠ F.a → b ≠ F.c → H b = some o → H' b = some o := fun b o n1 n2 h => f.base b o (fun _ => ⟨n1, n2⟩) h
  have none' : ∀ b o, H b = some o → Hs b = none → Hs' b = none := fun b o h h2 => by
    cases z : Hs' b with
    | none => rfl
    | some u =>
      rcases f.new b u z with ⟨o', y⟩ | y
      · have y' : Hs b = some o' := y
        rw [h2] at y'; cases y'
      · have y' : H b = none := y
        rw [y'] at h; cases h
  refine ⟨⟨fun b o hb h => ?_, q.ex0.trans e, f.ex, fun x o h => ?_, fun _ => f.deal rfl⟩, q.len, fun i d h => ?_, fun i ds h => ?_, q.sep, q.dref, q.raw⟩
  · obtain ⟨n1, n2⟩ := hb hd
    exact keep b o n1 n2 (q.base b o hb h)
  · rcases f.new x o h with ⟨o', y⟩ | y
    · exact q.new x o' y
    · exact .inr (q.toFin.free y)
  · obtain ⟨x, h1, h2⟩ := q.val i d h
    exact ⟨x, h1, h2.mono e⟩
  · obtain ⟨h1, h2, h3, ⟨vs, h4, h5⟩, h6⟩ := q.own i ds h
    obtain ⟨n1, n2⟩ := h6 hd
    exact ⟨h1, none' _ _ h4 h2, h3, ⟨vs, keep _ _ n1 n2 h4, h5.mono e⟩, h6⟩
end

section
variable {X : Cx} {F : Fm} {S S1 S2 : List Sl} {g g1 g2 g3 : DS} {a b c e tg : Expr} {es : List Expr} {x y z d : D} {ds : List D} {i j : Int} {pos p : Pos} {st : Stmt} {k : Nat} {nm : Str} {ps : List Str}

/-! ### calls of defs -/
theorem xe_call {R : List D → D → Prop} {kd : Nat} (Dn : Def X.prog X.w X.K X.mg X.base kd nm st ps (spP X.K R)) (hr : Room k X.A) (ha : XD X F S g (e :: es) g1 ds) (hR : R ds d) (hg : Gl X nm := by rfl) (hdb : (nm == ("__debug__" : Str)) = false := by decide)
    (he : starEach (e :: es) X.env = (false, eval e X.env) :: starEach es X.env := by rfl) (hpl : (backTo pos (starEach es X.env)).any (·.1) = false := by rfl) (hjk : kd ≤ k := by decide) : XE X F S g (.Call (.Name nm p) (e :: es) [] pos) g1 d := by
  have Dn := Dn.mono hjk
  obtain ⟨f, fd, G, Fn, hm, hb⟩ := Dn.ex
  refine pe_mono (pe_call G hr hg hm Fn.kp hb .nil pass0 ha hdb he hpl) fun σ H Q ⟨Hs, A, ok, k⟩ => ⟨Hs, A, ok, fun xs Hs1 H1 e1 ok1 r1 => ?_⟩
  show spP X.K R (xs ++ []) H1 Q E0
  rw [List.append_nil]
  exact ⟨ds, d, Hs1, hR, ok1.ex, r1, fun v Hs2 H2 e2 fin r2 => k v Hs2 H2 (e1.trans e2) (ok1.after e2 fin) r2⟩
theorem xe_call0 {R : List D → D → Prop} {kd : Nat} (Dn : Def X.prog X.w X.K X.mg X.base kd nm st ps (spP X.K R)) (hr : Room k X.A) (hR : R [] d) (hg : Gl X nm := by rfl) (hdb : (nm == ("__debug__" : Str)) = false := by decide) (hjk : kd ≤ k := by decide) : XE X F S g (.Call (.Name nm p) [] [] pos) g d := by
  have Dn := Dn.mono hjk
  obtain ⟨f, fd, G, Fn, hm, hb⟩ := Dn.ex
  refine pe_mono (pe_call0 G hr hg hm Fn.kp hb .nil pass0 hdb) fun σ H Q ⟨Hs, A, ok, k⟩ => ?_
  exact ⟨[], d, Hs, hR, ok.ex, .nil, fun v Hs2 H2 e2 fin r2 => k v Hs2 H2 e2 (ok.after e2 fin) r2⟩
theorem xe_callD {R : List Ar → DS → D → DS → Prop} {as : List Ar} {kd : Nat} (Dn : Def X.prog X.w X.K X.mg X.base kd nm st ps (spD X.K R)) (hr : Room k X.A) (ha : XA X F S g (e :: es) g1 as) (hR : R as g1 d g2) (hd : F.dl = true) (hg : Gl X nm := by rfl) (hdb : (nm == ("__debug__" : Str)) = false := by decide)
    (he : starEach (e :: es) X.env = (false, eval e X.env) :: starEach es X.env := by rfl) (hpl : (backTo pos (starEach es X.env)).any (·.1) = false := by rfl) (hjk : kd ≤ k := by decide) : XE X F S g (.Call (.Name nm p) (e :: es) [] pos) g2 d := by
  have Dn := Dn.mono hjk
  obtain ⟨f, fd, G, Fn, hm, hb⟩ := Dn.ex
  refine pe_mono (pe_call G hr hg hm Fn.kp hb .nil pass0 ha hdb he hpl) fun σ H Q ⟨Hs, A, ok, k⟩ => ⟨Hs, A, ok, fun xs Hs1 H1 e1 ok1 r1 => ?_⟩
  show spD X.K R (xs ++ []) H1 Q E0
  rw [List.append_nil]
  obtain ⟨n, s1, s2, dd⟩ := ok1.deal hd
  exact ⟨as, g1, d, g2, Hs1, F.a, F.c, hR, ok1.ex, r1, n, s1, s2, dd, fun v Hs2 H2 e2 fin r2 => k v Hs2 H2 (e1.trans e2) (ok1.afterD hd e2 fin) r2⟩
/-! keywords -/
abbrev XKw (X : Cx) (F : Fm) (S : List Sl) (g : DS) (kws : List Keyword) (g' : DS) (ds : List D) : Prop := PK X kws (tDs X.K F S g g' ds)
theorem pk_mono {kws : List Keyword} {t t' : TA} (h : PK X kws t) (m : ∀ σ H Q, t' σ H Q → t σ H Q) : PK X kws t' := ⟨fun pos pins s σ H Q I q => h.run pos pins s σ H Q I (m σ H Q q)⟩
theorem xk_nil : XKw X F S g [] g [] := pk_mono pk_nil fun σ H Q ⟨Hs, A, ok, k⟩ => k [] Hs H (Same.refl _) ok .nil
theorem xk_cons {kws : List Keyword} {n : Option Str} {kpos : Pos} (h : XE X F S g e g1 x) (t : XKw X F S g1 kws g2 ds) : XKw X F S g (⟨n, e, kpos⟩ :: kws) g2 (x :: ds) :=
  pk_mono (pk_cons h t) fun σ H Q ⟨Hs, A, ok, k⟩ => ⟨Hs, A, ok, fun v Hs1 H1 e1 ok1 r1 => ⟨Hs1, A, ok1, fun xs Hs2 H2 e2 ok2 r2 => k (v :: xs) Hs2 H2 (e1.trans e2) ok2 (.cons (r1.mono e2) r2)⟩⟩
/-- how keywords (names ks) come to the parameters ps: place by place -/
def permV {α : Type} (js : List Nat) (us ws : List α) : List α := js.filterMap fun j => (us ++ ws)[j]?
theorem vals_perm : ∀ (js : List Nat) {vs zs : List V} {us ws : List Value}, Vals vs us → Vals zs ws → Vals (permV js vs zs) (permV js us ws)
  | [], _, _, _, _, _, _ => .nil
  | j :: js, vs, zs, us, ws, r, q => by
    have t := vals_perm js r q
    have a := r.append q
    unfold permV at t ⊢
    rw [List.filterMap_cons, List.filterMap_cons]
    cases h : (vs ++ zs)[j]? with
    | none => rw [a.none_of h]; exact t
    | some v =>
      obtain ⟨u, h1, h2⟩ := a.get h
      rw [h1]
      exact .cons h2 t
theorem rps_perm {K : PySem.W.Frag} {H : Hp} : ∀ (js : List Nat) {vs zs : List V} {us ws : List D}, Rps K H vs us → Rps K H zs ws → Rps K H (permV js vs zs) (permV js us ws)
  | [], _, _, _, _, _, _ => .nil
  | j :: js, vs, zs, us, ws, r, q => by
    have t := rps_perm js r q
    have a := r.append q
    unfold permV at t ⊢
    rw [List.filterMap_cons, List.filterMap_cons]
    cases h : (vs ++ zs)[j]? with
    | none =>
      have h' : (us ++ ws)[j]? = none := by
        rw [List.getElem?_eq_none_iff] at h ⊢
        rw [← a.len]; exact h
      rw [h']; exact t
    | some v =>
      obtain ⟨u, h1, h2⟩ := a.get' h
      rw [h1]
      exact .cons h2 t
theorem pe_callK0 {CX : CXT} {f : Addr} {fd : FuncData} {ks : List Str} {sp : Sp} {E : XK} {kws : List Keyword} {tk : TA} {gg : List Value → List Value → List Value} {gV : List V → List V → List V} (G : FnOk X.prog X.w X.K X.mg X.base CX k f fd ps sp) (hr : Room k X.A) (hg : Gl X nm) (hm : X.mg nm = some (.ref f))
    (hk : PySem.W.keepIn X.K (.ref f) = true) (hb : KBinds X.K fd ps ks gg gV) (hx : Passes CX X E) (hkw : PK X kws tk) (hall : (backToKw pos (keywordEach kws X.env)).all (·.1.isSome) = true) (hks : (backToKw pos (keywordEach kws X.env)).filterMap (·.1) = ks)
    (hdb : (nm == ("__debug__" : Str)) = false) (hpl : ((backTo pos (starEach [] X.env)).any (·.1) || (backToKw pos (keywordEach kws X.env)).any (·.1.isNone)) = false) :
    PE X (.Call (.Name nm p) [] kws pos) (fun σ H Q => tk σ H fun zs H2 => sp (gV [] zs) H2 Q E) := by
  refine ⟨fun pins s σ H Q I h => ?_⟩
  refine wpAny_Call_Name_kw (ld_glob I hg hm ?_ hdb)
  refine PySem.W.callWith_KW0 (h₀ := X.base) I.ok.mod.kin hk hall ?_ hpl
  refine thn (hkw.run pos pins s σ H _ I h) fun ws s2 ⟨zs, H2, I2, rz, q2⟩ => ⟨I2.kIn, ?_⟩
  rw [hks]
  exact run_fnk (us := []) (vs := []) G hr hb hx I2 .nil rz q2
def gK {α : Type} (js : List Nat) (n : Nat) : List α → List α → List α
  | [], ws => if ws.length = n then permV js [] ws else []
  | _ :: _, _ => []
/-- f(k = v, ..) by names alone -/
theorem xe_callK0 {R : List D → D → Prop} {kws : List Keyword} {kd : Nat} (js : List Nat) (ks : List Str) (Dn : Def X.prog X.w X.K X.mg X.base kd nm st ps (spP X.K R)) (hr : Room k X.A) (ha : XKw X F S g kws g1 ds) (hR : R (permV js [] ds) d)
    (hbind : ∀ (kV doc pm : Value) (an : Option Addr) (cdv ct : Value) (ws : List Value), ws.length = ks.length → bindArgs (PySem.W.fnOf nm nm (defArgs st) (defBody st) (defScope st) .none kV doc pm an cdv ct) ⟨[], ks.zip ws⟩ = pure (ps.zip (permV js [] ws)))
    (hps : ps.length ≠ 0 := by decide) (hdn : ds.length = ks.length := by rfl)
    (hg : Gl X nm := by rfl) (hall : (backToKw pos (keywordEach kws X.env)).all (·.1.isSome) = true := by rfl) (hks : (backToKw pos (keywordEach kws X.env)).filterMap (·.1) = ks := by rfl)
    (hdb : (nm == ("__debug__" : Str)) = false := by decide) (hpl : ((backTo pos (starEach [] X.env)).any (·.1) || (backToKw pos (keywordEach kws X.env)).any (·.1.isNone)) = false := by rfl) (hjk : kd ≤ k := by decide) : XE X F S g (.Call (.Name nm p) [] kws pos) g1 d := by
  have Dn := Dn.mono hjk
  obtain ⟨f, fd, G, Fn, hm, hb⟩ := Dn.ex
  have KB : KBinds X.K fd ps ks (gK js ks.length) (gK js ks.length) := by
    obtain ⟨oc, od, kV, doc, pm, an, cdv, ct, osl, rfl, lk, hcd⟩ := Fn.ex
    refine ⟨fun s us ws hK hl => ?_, fun {vs us zs ws} r q => ?_⟩
    · cases us with
      | nil =>
        by_cases hw : ws.length = ks.length
        · have e : gK js ks.length [] ws = permV js [] ws := if_pos hw
          rw [e]
          exact .of_eq (hbind kV doc pm an cdv ct ws hw)
        · have e : gK js ks.length [] ws = [] := if_neg hw
          rw [e] at hl
          exact absurd hl.symm hps
      | cons u us => exact absurd hl.symm hps
    · cases r with
      | nil =>
        show Vals (if zs.length = ks.length then permV js [] zs else []) (if ws.length = ks.length then permV js [] ws else [])
        have e : zs.length = ws.length := q.length
        by_cases hw : ws.length = ks.length
        · rw [if_pos (by omega), if_pos hw]
          exact vals_perm js .nil q
        · rw [if_neg (by omega), if_neg hw]
          exact .nil
      | cons _ _ => exact .nil
  refine pe_mono (pe_callK0 G hr hg hm Fn.kp KB pass0 ha hall hks hdb hpl) fun σ H Q ⟨Hs, A, ok, k⟩ => ⟨Hs, A, ok, fun xs Hs1 H1 e1 ok1 r1 => ?_⟩
  have e : gK js ks.length [] xs = permV js [] xs := if_pos (by rw [r1.len]; exact hdn)
  show spP X.K R (gK js ks.length [] xs) H1 Q E0
  rw [e]
  exact ⟨_, d, Hs1, hR, ok1.ex, rps_perm js .nil r1, fun v Hs2 H2 e2 fin r2 => k v Hs2 H2 (e1.trans e2) (ok1.after e2 fin) r2⟩
end
end Z
namespace Z
open PySem PySem.Spec PyProof.Rows L2

section
variable {X : Cx} {F : Fm} {S S1 S2 : List Sl} {g g1 g2 g3 : DS} {a b c e tg : Expr} {es : List Expr} {x y z d : D} {ds : List D} {i j : Int} {pos p p1 p2 p3 : Pos}

/-! ### built-ins -/
theorem xe_B {r : List V → Hp → VK → Prop} {id : String} {nm : Str} (hc : CallR X (.builtin id) r) (hm : X.mg nm = none) (hv : bootBuiltins nm = some (.builtin id)) (ha : XD X F S g (e :: es) g1 ds)
    (hr : ∀ (A : Nat → Addr) (σ : L2.St) (Hs H : Hp) (vs : List V) (Q : VK), Ok X.K F Hs A H σ S g1 → Rps X.K Hs vs ds → kE X.K F A σ S g1 d Hs Q → r vs H Q) (hg : Gl X nm := by rfl) (hn : nm ≠ "__name__" := by decide) (hdb : (nm == ("__debug__" : Str)) = false := by decide)
    (he : starEach (e :: es) X.env = (false, eval e X.env) :: starEach es X.env := by rfl) (hpl : (backTo pos (starEach es X.env)).any (·.1) = false := by rfl) : XE X F S g (.Call (.Name nm p) (e :: es) [] pos) g1 d :=
  pe_mono (pe_callB hc hg hm hv ha hn hdb he hpl) fun σ H Q ⟨Hs, A, ok, k⟩ => ⟨Hs, A, ok, fun vs Hs1 H1 e1 ok1 r1 => hr A σ Hs1 H1 vs Q ok1 r1 fun v Hs2 H2 e2 => k v Hs2 H2 (e1.trans e2)⟩
theorem xe_Ty {r : List V → Hp → VK → Prop} {T : String} {nm : Str} (hc : CallR X (.type T) r) (hm : X.mg nm = none) (hv : bootBuiltins nm = some (.type T)) (ha : XD X F S g (e :: es) g1 ds)
    (hr : ∀ (A : Nat → Addr) (σ : L2.St) (Hs H : Hp) (vs : List V) (Q : VK), Ok X.K F Hs A H σ S g1 → Rps X.K Hs vs ds → kE X.K F A σ S g1 d Hs Q → r vs H Q) (hg : Gl X nm := by rfl) (hn : nm ≠ "__name__" := by decide) (hdb : (nm == ("__debug__" : Str)) = false := by decide)
    (he : starEach (e :: es) X.env = (false, eval e X.env) :: starEach es X.env := by rfl) (hpl : (backTo pos (starEach es X.env)).any (·.1) = false := by rfl) : XE X F S g (.Call (.Name nm p) (e :: es) [] pos) g1 d :=
  pe_mono (pe_callTy hc hg hm hv ha hn hdb he hpl) fun σ H Q ⟨Hs, A, ok, k⟩ => ⟨Hs, A, ok, fun vs Hs1 H1 e1 ok1 r1 => hr A σ Hs1 H1 vs Q ok1 r1 fun v Hs2 H2 e2 => k v Hs2 H2 (e1.trans e2)⟩
def lenD : D → Option Nat
  | .tup ds => some ds.length
  | .lst ds => some ds.length
  | .str s => if s.length ≤ sizeLine then some s.length else none
  | _ => none
theorem lenV_of {A : Nat → Addr} {σ : L2.St} {Hs H : Hp} {v : V} {n : Nat} (ok : Ok X.K F Hs A H σ S g) (r : Rp X.K Hs v x) (h : lenD x = some n) : LenV X.K v H n := by
  cases r with
  | tup q r => cases h; exact .inr ⟨_, sqt_mono ok.ex q, r.len.symm⟩
  | lst q r => cases h; exact .inl ⟨_, .inl (.inl (ok.ex _ _ q)), r.len.symm⟩
  | str s =>
    unfold lenD at h
    by_cases hs : s.length ≤ sizeLine
    · simp only [if_pos hs] at h; cases h; exact ⟨hs, rfl⟩
    · simp only [if_neg hs] at h; cases h
  | non => cases h
  | bl _ => cases h
  | int _ => cases h
theorem xe_len {n : Nat} (ha : XE X F S g a g1 x) (h : lenD x = some n) (hm : X.mg "len" = none) (hg : Gl X "len" := by rfl) (he : starEach [a] X.env = (false, eval a X.env) :: starEach [] X.env := by rfl) : XE X F S g (.Call (.Name "len" p) [a] [] pos) g1 (.int (n : Nat)) :=
  xe_B call_len hm PySem.boot_len (xd_cons ha xd_nil he) (fun A σ Hs H vs Q ok r k => by
    cases r with
    | cons r t =>
      cases t
      exact ⟨_, n, rfl, lenV_of ok r h, k _ Hs H (Same.refl _) ok (.int _)⟩) hg (he := he)
theorem xe_lenO (n : Nat) {xs : List D} {nm : Str} (h : S[n]? = some (.own xs)) (hm : X.mg "len" = none) (hg : Gl X "len" := by rfl) (hi : n < X.N.length := by first | decide | exact Nat.le_of_ble_eq_true rfl) (hN : X.N[n]? = some nm := by rfl) (hv : Vis X.env.scope nm := by first | exact Or.inl rfl | exact Or.inr (Or.inl rfl) | exact Or.inr (Or.inr rfl)) (hd : (nm == ("__debug__" : Str)) = false := by decide)
    (hcd : (nm == ("__classdict__" : Str)) = false := by decide) (he : starEach [.Name nm p1] X.env = (false, eval (.Name nm p1) X.env) :: starEach [] X.env := by rfl) : XE X F S g (.Call (.Name "len" p) [.Name nm p1] [] pos) g (.int (xs.length : Nat)) := by
  refine ⟨fun pins s σ H Q I q => ?_⟩
  refine (pe_callB (p := p) (pos := pos) call_len hg hm PySem.boot_len (pa_cons (pe_var hN hv hd hcd) pa_nil he)).run pins s σ H Q I ?_
  obtain ⟨Hs, A, ok, k⟩ := q
  obtain ⟨h1, _, _, ⟨vs, h4, h5⟩, _⟩ := ok.own n xs h
  exact ⟨_, h1 (by rw [I.len]; exact hi), _, xs.length, rfl, .inl ⟨vs, .inl (.inl h4), h5.len.symm⟩, k _ Hs H (Same.refl _) ok (.int _)⟩
theorem xe_abs (ha : XE X F S g a g1 (.int i)) (hm : X.mg "abs" = none) (hg : Gl X "abs" := by rfl) (he : starEach [a] X.env = (false, eval a X.env) :: starEach [] X.env := by rfl) : XE X F S g (.Call (.Name "abs" p) [a] [] pos) g1 (.int (i.natAbs : Nat)) :=
  xe_B call_abs hm (by decide +kernel) (xd_cons ha xd_nil he) (fun A σ Hs H vs Q ok r k => by
    cases r with
    | cons r t =>
      cases t; cases r
      refine ⟨i, rfl, ?_⟩
      have e : (if i < 0 then -i else i) = ((i.natAbs : Nat) : Int) := by split <;> omega
      rw [e]
      exact k _ Hs H (Same.refl _) ok (.int _)) hg (he := he)
theorem xe_int1 (ha : XE X F S g a g1 (.int i)) (hm : X.mg "int" = none) (hg : Gl X "int" := by rfl) (he : starEach [a] X.env = (false, eval a X.env) :: starEach [] X.env := by rfl) : XE X F S g (.Call (.Name "int" p) [a] [] pos) g1 (.int i) :=
  xe_Ty call_int1 hm (by decide +kernel) (xd_cons ha xd_nil he) (fun A σ Hs H vs Q ok r k => by
    cases r with
    | cons r t =>
      cases t; cases r
      exact .inl ⟨i, rfl, k _ Hs H (Same.refl _) ok (.int _)⟩) hg (he := he)
theorem xe_strI (ha : XE X F S g a g1 (.int i)) (hl : i.natAbs.log2 < 1920) (hm : X.mg "str" = none) (hg : Gl X "str" := by rfl) (he : starEach [a] X.env = (false, eval a X.env) :: starEach [] X.env := by rfl) : XE X F S g (.Call (.Name "str" p) [a] [] pos) g1 (.str (toString i)) :=
  xe_Ty call_str_int hm (by decide +kernel) (xd_cons ha xd_nil he) (fun A σ Hs H vs Q ok r k => by
    cases r with
    | cons r t =>
      cases t; cases r
      exact ⟨i, rfl, hl, k _ Hs H (Same.refl _) ok (.str _)⟩) hg (he := he)
/-! isinstance -/
def tyD : D → String
  | .non => "NoneType" | .bl _ => "bool" | .int _ => "int" | .str _ => "str" | .tup _ => "tuple" | .lst _ => "list"
theorem tyX_of {A : Nat → Addr} {σ : L2.St} {Hs H : Hp} {v : V} (e : Same Hs H) (r : Rp X.K Hs v x) : TyX X.K H v (.type (tyD x)) := by
  cases r with
  | non => exact .base .non
  | bl b => exact .base (.bl b)
  | int i => exact .base (.int i)
  | str s => exact .base (.str s)
  | tup q r =>
    rcases sqt_mono e q with (q | ⟨o, q⟩) | ⟨o, its, n, q, c, _⟩
    · exact .base (.tup q)
    · exact .fTuple q
    · exact .kTuple q c
  | lst q r => exact .base (.lst (e _ _ q))
theorem xe_isi {nm : Str} {T : String} {b' : Bool} (ha : XE X F S g a g1 x) (hT : bootBuiltins nm = some (.type T)) (hk : kitB (tyD x) T = some b') (hmT : X.mg nm = none) (hm : X.mg "isinstance" = none) (hg : Gl X "isinstance" := by rfl) (hgT : Gl X nm := by rfl) (hn : nm ≠ "__name__" := by decide) (hdb : (nm == ("__debug__" : Str)) = false := by decide)
    (he : starEach [a, .Name nm p1] X.env = (false, eval a X.env) :: starEach [.Name nm p1] X.env := by rfl) (he2 : starEach [.Name nm p1] X.env = (false, eval (.Name nm p1) X.env) :: starEach [] X.env := by rfl) (hpl : (backTo pos (starEach [.Name nm p1] X.env)).any (·.1) = false := by rfl) :
    XE X F S g (.Call (.Name "isinstance" p) [a, .Name nm p1] [] pos) g1 (.bl b') :=
  pe_mono (pe_callB call_isi hg hm (by decide +kernel) (pa_cons ha (pa_cons (pe_bltn (v := .ty T) hgT hmT hT rfl hn hdb) pa_nil he2) he) (by decide) (by decide) he hpl) fun σ H Q ⟨Hs, A, ok, k⟩ => ⟨Hs, A, ok, fun v Hs1 H1 e1 ok1 r1 =>
    ⟨v, .ty T, _, _, b', rfl, .ty T, tyX_of (A := A) (σ := σ) ok1.ex r1, kit_ty hk, k _ Hs1 H1 e1 ok1 (.bl _)⟩⟩
/-- isinstance(a, (T1, T2, T3)) -/
theorem xe_isi3 {n1 n2 n3 : Str} {T1 T2 T3 : String} {m : Nat} {b1 b2 b3 : Bool} (ha : XE X F S g a g1 x) (h1 : bootBuiltins n1 = some (.type T1)) (h2 : bootBuiltins n2 = some (.type T2)) (h3 : bootBuiltins n3 = some (.type T3))
    (k1 : kitB (tyD x) T1 = some b1) (k2 : kitB (tyD x) T2 = some b2) (k3 : kitB (tyD x) T3 = some b3) (m1 : X.mg n1 = none) (m2 : X.mg n2 = none) (m3 : X.mg n3 = none) (hm : X.mg "isinstance" = none) (hg : Gl X "isinstance" := by rfl)
    (g1' : Gl X n1 := by rfl) (g2' : Gl X n2 := by rfl) (g3' : Gl X n3 := by rfl) (q1 : n1 ≠ "__name__" := by decide) (q2 : n2 ≠ "__name__" := by decide) (q3 : n3 ≠ "__name__" := by decide) (d1 : (n1 == ("__debug__" : Str)) = false := by decide) (d2 : (n2 == ("__debug__" : Str)) = false := by decide) (d3 : (n3 == ("__debug__" : Str)) = false := by decide)
    {pa pb pc pt : Pos} (he : starEach [a, .Tuple [.Name n1 pa, .Name n2 pb, .Name n3 pc] m pt] X.env = (false, eval a X.env) :: starEach [.Tuple [.Name n1 pa, .Name n2 pb, .Name n3 pc] m pt] X.env := by rfl)
    (he2 : starEach [.Tuple [.Name n1 pa, .Name n2 pb, .Name n3 pc] m pt] X.env = (false, eval (.Tuple [.Name n1 pa, .Name n2 pb, .Name n3 pc] m pt) X.env) :: starEach [] X.env := by rfl)
    (s1 : starEach [.Name n1 pa, .Name n2 pb, .Name n3 pc] X.env = (false, eval (.Name n1 pa) X.env) :: starEach [.Name n2 pb, .Name n3 pc] X.env := by rfl) (s2 : starEach [.Name n2 pb, .Name n3 pc] X.env = (false, eval (.Name n2 pb) X.env) :: starEach [.Name n3 pc] X.env := by rfl) (s3 : starEach [.Name n3 pc] X.env = (false, eval (.Name n3 pc) X.env) :: starEach [] X.env := by rfl)
    (hpl : (backTo pos (starEach [.Tuple [.Name n1 pa, .Name n2 pb, .Name n3 pc] m pt] X.env)).any (·.1) = false := by rfl) :
    XE X F S g (.Call (.Name "isinstance" p) [a, .Tuple [.Name n1 pa, .Name n2 pb, .Name n3 pc] m pt] [] pos) g1 (.bl (b1 || (b2 || b3))) :=
  pe_mono (pe_callB call_isiT hg hm (by decide +kernel) (pa_cons ha (pa_cons (pe_tup (pa_cons (pe_bltn (v := .ty T1) g1' m1 h1 rfl q1 d1) (pa_cons (pe_bltn (v := .ty T2) g2' m2 h2 rfl q2 d2) (pa_cons (pe_bltn (v := .ty T3) g3' m3 h3 rfl q3 d3) pa_nil s3) s2) s1)) pa_nil he2) he) (by decide) (by decide) he hpl)
    fun σ H Q ⟨Hs, A, ok, k⟩ => ⟨Hs, A, ok, fun v Hs1 H1 e1 ok1 r1 => ⟨by show 3 ≤ sizeLine; decide, fun tp htp => by
      refine ⟨v, tp, [.ty T1, .ty T2, .ty T3], _, [.type T1, .type T2, .type T3], _, rfl, upd_same, .cons (.ty _) (.cons (.ty _) (.cons (.ty _) .nil)), tyX_of (A := A) (σ := σ) (ok1.ex.trans (same_new htp)) r1, ?_, k _ Hs1 _ e1 (ok1.grow htp) (.bl _)⟩
      refine kitAny_cons (kit_ty k1) (r := b1 || (b2 || b3)) (fun e => ?_) (fun e => by rw [e]; rfl)
      subst e
      refine kitAny_cons (kit_ty k2) (r := b2 || b3) (fun e => ?_) (fun e => by rw [e]; rfl)
      subst e
      refine kitAny_cons (kit_ty k3) (r := b3) (fun e => ?_) (fun e => e)
      rw [e]
      exact kitAny_nil⟩⟩
theorem rps_rg {K : PySem.W.Frag} {H : Hp} (i j : Int) : Rps K H (rgV i j) (rngD i (j - i).toNat) := by
  unfold rgV rngD
  generalize List.range (j - i).toNat = l
  induction l with
  | nil => exact .nil
  | cons n l ih => exact .cons (.int _) ih
/-- list(range(a, b)) -/
theorem xn_listR2 (ha : XE X F S g a g1 (.int i)) (hb : XE X F S g1 b g2 (.int j)) (hz : RgOk i j) (hm : X.mg "range" = none) (hml : X.mg "list" = none) (hg : Gl X "range" := by rfl) (hgl : Gl X "list" := by rfl) (hc : X.calm = true := by rfl)
    (na : starEach [a, b] X.env = (false, eval a X.env) :: starEach [b] X.env := by rfl) (nb : starEach [b] X.env = (false, eval b X.env) :: starEach [] X.env := by rfl) (hp : (backTo pos (starEach [b] X.env)).any (·.1) = false := by rfl)
    (ne : starEach [.Call (.Name "range" p) [a, b] [] pos] X.env = (false, eval (.Call (.Name "range" p) [a, b] [] pos) X.env) :: starEach [] X.env := by rfl) : XN X F S g (.Call (.Name "list" p1) [.Call (.Name "range" p) [a, b] [] pos] [] p2) g2 (rngD i (j - i).toNat) :=
  pe_mono (pe_listRg hc hgl hml (prg_2 hg hm ha hb na nb hp) ne) fun σ H Q ⟨Hs, A, ok, k⟩ => ⟨Hs, A, ok, fun u Hs1 H1 e1 ok1 r1 => ⟨Hs1, A, ok1, fun v Hs2 H2 e2 ok2 r2 => by
    cases r1
    cases r2
    exact ⟨i, j, rfl, rfl, hz, fun q hq => k q _ Hs2 _ (e1.trans e2) (ok2.grow hq) (ok2.toFin.freeS hq) (ok2.toFin.free hq) upd_same (ok2.toFin.neDeal hq) (ok2.ownNe hq) (rps_rg i j)⟩⟩⟩

/-! ### comprehensions -/
/-- the slots vs forgotten -/
def wipeS (S : List Sl) : List Nat → List Sl
  | [] => S
  | v :: vs => (wipeS S vs).set v .un
theorem wipeS_len (S : List Sl) : ∀ vs : List Nat, (wipeS S vs).length = S.length
  | [] => rfl
  | v :: vs => by unfold wipeS; rw [List.length_set, wipeS_len S vs]
theorem wipeS_out {S : List Sl} {i : Nat} : ∀ {vs : List Nat}, i ∉ vs → (wipeS S vs)[i]? = S[i]?
  | [], _ => rfl
  | v :: vs, h => by
    unfold wipeS
    rw [List.getElem?_set_ne (fun e => h (by rw [e]; exact List.mem_cons_self))]
    exact wipeS_out fun q => h (List.mem_cons_of_mem _ q)
def notOwn : Option Sl → Bool
  | some (.own _) => false
  | some .dl => false
  | _ => true
theorem Ok.wipe {K : PySem.W.Frag} {Hs H : Hp} {A : Nat → Addr} {σ : L2.St} (q : Ok K F Hs A H σ S g) : ∀ vs : List Nat, Ok K F Hs A H (L2.wipe σ vs) (wipeS S vs) g
  | [] => q
  | v :: vs => by
    have q1 := (q.wipe vs).forget v
    unfold L2.wipe wipeS
    refine ⟨q1.toFin, by rw [List.length_set]; exact q1.len, fun i d h => ?_, fun i ds h => ?_, q1.sep, fun i h => ?_, fun i x h => ?_⟩
    · obtain ⟨x, h1, h2⟩ := q1.val i d h
      have hv : v ≠ i := fun e => by
        subst e
        by_cases hl : v < (wipeS S vs).length
        · rw [List.getElem?_set_self hl] at h; cases h
        · rw [List.getElem?_eq_none (by rw [List.length_set]; omega)] at h; cases h
      exact ⟨x, by rw [List.getElem?_set_ne hv]; exact h1, h2⟩
    · obtain ⟨h1, h2⟩ := q1.own i ds h
      have hv : v ≠ i := fun e => by
        subst e
        by_cases hl : v < (wipeS S vs).length
        · rw [List.getElem?_set_self hl] at h; cases h
        · rw [List.getElem?_eq_none (by rw [List.length_set]; omega)] at h; cases h
      exact ⟨fun hl => by rw [List.getElem?_set_ne hv]; exact h1 (by rw [List.length_set] at hl; exact hl), h2⟩
    · have hv : v ≠ i := fun e => by
        subst e
        by_cases hl : v < (wipeS S vs).length
        · rw [List.getElem?_set_self hl] at h; cases h
        · rw [List.getElem?_eq_none (by rw [List.length_set]; omega)] at h; cases h
      exact ⟨by rw [List.getElem?_set_ne hv]; exact (q1.dref i h).1, (q1.dref i h).2⟩
    · have hv : v ≠ i := fun e => by
        subst e
        by_cases hl : v < (wipeS S vs).length
        · rw [List.getElem?_set_self hl] at h; cases h
        · rw [List.getElem?_eq_none (by rw [List.length_set]; omega)] at h; cases h
      rw [List.getElem?_set_ne hv]; exact q1.raw i x h
/-- a hidden list of ours behind all slots -/
theorem Ok.hide {K : PySem.W.Frag} {Hs H : Hp} {A : Nat → Addr} {σ : L2.St} {q : Addr} (ok : Ok K F Hs A H σ S g) (h : H q = none) : Ok K F Hs (fun n => if n = S.length then q else A n) (upd H q (.lst [])) σ (S ++ [.own []]) g := by
  have ok1 := ok.grow (o := .lst []) h
  have get : ∀ (i : Nat) (s : Sl), (S ++ [Sl.own []])[i]? = some s → (i < S.length ∧ S[i]? = some s) ∨ (i = S.length ∧ s = .own []) := fun i s e => by
    by_cases hi : i < S.length
    · rw [List.getElem?_append_left hi] at e; exact .inl ⟨hi, e⟩
    · rw [List.getElem?_append_right (by omega)] at e
      by_cases hj : i = S.length
      · subst hj; rw [Nat.sub_self] at e; exact .inr ⟨rfl, (Option.some.inj e).symm⟩
      · rw [List.getElem?_eq_none (by show 1 ≤ _; omega)] at e; cases e
  refine ⟨ok1.toFin, by rw [List.length_append]; have := ok1.len; omega, fun i d e => ?_, fun i es e => ?_, fun i j es fs ei ej e => ?_, fun i e => ?_, fun i x e => ?_⟩
  · rcases get i _ e with ⟨_, e⟩ | ⟨_, e⟩
    · exact ok1.val i d e
    · cases e
  · rcases get i _ e with ⟨hi, e⟩ | ⟨hi, e⟩
    · rw [if_neg (by omega)]
      exact ok1.own i es e
    · cases e
      rw [if_pos hi]
      refine ⟨fun hl => absurd hl (by have := ok.len; omega), ok.toFin.freeS h, ok.toFin.free h, ⟨[], upd_same, .nil⟩, ok.toFin.neDeal h⟩
  · rcases get i _ ei with ⟨hi, ei⟩ | ⟨hi, _⟩
    · rcases get j _ ej with ⟨hj, ej⟩ | ⟨hj, _⟩
      · rw [if_neg (by omega), if_neg (by omega)] at e
        exact ok.sep i j es fs ei ej e
      · rw [if_neg (by omega), if_pos hj] at e
        exact absurd e (ok.ownNe h i es ei)
    · rcases get j _ ej with ⟨hj, ej⟩ | ⟨hj, _⟩
      · rw [if_pos hi, if_neg (by omega)] at e
        exact absurd e.symm (ok.ownNe h j fs ej)
      · omega
  · rcases get i _ e with ⟨_, e⟩ | ⟨_, e⟩
    · exact ok1.dref i e
    · cases e
  · rcases get i _ e with ⟨_, e⟩ | ⟨_, e⟩
    · exact ok1.raw i x e
    · cases e
/-- the outer slots again -/
theorem Ok.restore {K : PySem.W.Frag} {Hs Hs' H H' : Hp} {A : Nat → Addr} {σ σ2 : L2.St} {g' : DS} (q : Ok K F Hs A H σ S g) (e : Same Hs Hs') (n : Ok K F Hs' A H' σ2 S2 g') (hl : σ2.length = σ.length) (ho : ∀ (i : Nat) (ds : List D), S[i]? = some (.own ds) → S2[i]? = some (.own ds)) : Ok K F Hs' A H' σ S g' :=
  ⟨n.toFin, q.len, fun i d h => by
    obtain ⟨x, h1, h2⟩ := q.val i d h
    exact ⟨x, h1, h2.mono e⟩, fun i ds h => by
    obtain ⟨h1, _⟩ := q.own i ds h
    obtain ⟨_, h2⟩ := n.own i ds (ho i ds h)
    exact ⟨h1, h2⟩, q.sep, q.dref, q.raw⟩
/-- a comprehension's target takes a datum: slots vs alone change -/
def tGl (K : PySem.W.Frag) (F : Fm) (vs : List Nat) (S : List Sl) (d : D) (S' : List Sl) : TG := fun v σ H Q => ∃ Hs A g, Ok K F Hs A H σ S g ∧ Rp K Hs v d ∧ ∀ σ', L2.wipe σ' vs = L2.wipe σ vs → Ok K F Hs A H σ' S' g → Q σ' H
def tGls (K : PySem.W.Frag) (F : Fm) (vs : List Nat) (S : List Sl) (ds : List D) (S' : List Sl) : TGs := fun us σ H Q => ∃ Hs A g, Ok K F Hs A H σ S g ∧ Rps K Hs us ds ∧ ∀ σ', L2.wipe σ' vs = L2.wipe σ vs → Ok K F Hs A H σ' S' g → Q σ' H
abbrev XL (X : Cx) (F : Fm) (vs : List Nat) (S : List Sl) (tg : Expr) (d : D) (S' : List Sl) : Prop := ∀ T : List Sl, PG X tg (tGl X.K F vs (S ++ T) d (S' ++ T))
abbrev XLs (X : Cx) (F : Fm) (vs : List Nat) (S : List Sl) (tg : List Expr) (ds : List D) (S' : List Sl) : Prop := ∀ T : List Sl, PGs X tg (tGls X.K F vs (S ++ T) ds (S' ++ T))
/-- slots vs alone differ -/
def Outs (vs : List Nat) (S S' : List Sl) : Prop := (∀ i, i ∉ vs → S'[i]? = S[i]?) ∧ S'.length = S.length
theorem outs_refl {vs : List Nat} {S : List Sl} : Outs vs S S := ⟨fun _ _ => rfl, rfl⟩
theorem outs_set {vs : List Nat} {S S' : List Sl} {i : Nat} {s : Sl} (o : Outs vs S S') (h : i ∈ vs := by decide) : Outs vs S (S'.set i s) :=
  ⟨fun j hj => by rw [List.getElem?_set_ne (fun e => hj (by rw [← e]; exact h))]; exact o.1 j hj, by rw [List.length_set]; exact o.2⟩
theorem wipe_set {σ : L2.St} {i : Nat} {v : Option V} : ∀ {vs : List Nat}, i ∈ vs → L2.wipe (σ.set i v) vs = L2.wipe σ vs
  | [], h => by simp at h
  | w :: vs, h => by
    unfold L2.wipe
    by_cases hi : i ∈ vs
    · rw [wipe_set hi]
    · have e : i = w := by
        rcases List.mem_cons.mp h with e | e
        · exact e
        · exact absurd e hi
      subst e
      clear h
      have aux : ∀ (us : List Nat), i ∉ us → L2.wipe (σ.set i v) us = (L2.wipe σ us).set i v := fun us => by
        induction us with
        | nil => intro _; rfl
        | cons u us ih =>
          intro hu
          unfold L2.wipe
          rw [ih (fun q => hu (List.mem_cons_of_mem _ q)), List.set_comm _ _ (fun q => hu (by rw [q]; exact List.mem_cons_self))]
      rw [aux vs hi, List.set_set]
theorem xl_name (i : Nat) {vs : List Nat} {nm : Str} {px : Pos} (hN : X.N.Nodup) (hv : i ∈ vs := by decide) (hS : i < S.length := by first | decide | exact Nat.le_of_ble_eq_true rfl) (hi : X.N[i]? = some nm := by rfl) (hx : Loc X.env.scope nm := by first | exact Or.inl rfl | exact Or.inr rfl) (hf : X.fn nm = true ∨ X.env.scope.names.lookup nm = some .local := by first | exact .inl rfl | exact .inr rfl) :
    XL X F vs S (.Name nm px) d (S.set i (.v d)) :=
  fun T => ⟨fun pins s σ H v u Q I r ⟨Hs, A, g, ok, rv, k⟩ => (pg_name (pos := px) hN hi hx hf).run pins s σ H v u Q I r (k _ (wipe_set hv) (by
    have q := ok.setv (i := i) (by rw [I.len]; exact (List.getElem?_eq_some_iff.mp hi).1) rv
    rw [List.set_append_left i _ hS] at q
    exact q))⟩
theorem xls_nil {vs : List Nat} : XLs X F vs S [] [] S := fun T => pgs_mono pgs_nil fun us σ H Q ⟨Hs, A, g, ok, rv, k⟩ => by
    cases rv
    exact ⟨rfl, k σ rfl ok⟩
theorem xls_cons {vs : List Nat} (h1 : XL X F vs S e d S1) (h2 : XLs X F vs S1 es ds S2) (hs : (assignEach (e :: es) X.env).map (·.2) = assign e X.env :: (assignEach es X.env).map (·.2) := by rfl) : XLs X F vs S (e :: es) (d :: ds) S2 :=
  fun T => pgs_mono (pgs_cons (h1 T) (h2 T) hs) fun us σ H Q ⟨Hs, A, g, ok, rv, k⟩ => by
    cases rv with
    | cons r t => exact ⟨_, _, rfl, Hs, A, g, ok, r, fun σ1 w1 ok1 => ⟨Hs, A, g, ok1, t, fun σ2 w2 ok2 => k σ2 (w2.trans w1) ok2⟩⟩
theorem xl_tup {vs : List Nat} {n k : Nat} (h : XLs X F vs S es ds S1) (hl : ds.length = n := by rfl) (hc : X.calm = true := by rfl) (hn : (assignEach es X.env).length = n := by rfl) (hst : (assignEach es X.env).findIdx? (·.1) = none := by rfl) : XL X F vs S (.Tuple es k pos) (.tup ds) S1 :=
  fun T => pg_mono (pg_tup hc (h T) hn hst) fun v σ H Q ⟨Hs, A, g, ok, rv, k⟩ => by
    cases rv with
    | tup q r => exact ⟨_, _, rfl, sqt_mono ok.ex q, by rw [r.len]; exact hl, Hs, A, g, ok, r, k⟩
/-- the turns of a comprehension -/
inductive Lr (step : D → DS → Option D → DS → Prop) : List D → DS → List D → DS → Prop
  | nil {g : DS} : Lr step [] g [] g
  | keep {x y : D} {r ys : List D} {g g1 g2 : DS} (h : step x g (some y) g1) (t : Lr step r g1 ys g2) : Lr step (x :: r) g (y :: ys) g2
  | skip {x : D} {r ys : List D} {g g1 g2 : DS} (h : step x g none g1) (t : Lr step r g1 ys g2) : Lr step (x :: r) g ys g2
theorem Lr.len {step : D → DS → Option D → DS → Prop} : ∀ {xs ys : List D} {g g' : DS}, Lr step xs g ys g' → ys.length ≤ xs.length
  | _, _, _, _, .nil => Nat.le_refl _
  | _, _, _, _, .keep _ t => by have := t.len; simp only [List.length_cons]; omega
  | _, _, _, _, .skip _ t => by have := t.len; simp only [List.length_cons]; omega
/-- the block's own contexts -/
def Blk (X : Cx) (scope : Scope) (X' : Cx) : Prop := ∃ (s : Shared) (H : Hp) (C : Addr) (cl : List (Str × Addr)) (fp : List Addr), X' = X.blk s H scope (compEnvC scope cl C X.env) fp
abbrev XTs (X : Cx) (F : Fm) (S : List Sl) (g : DS) (es : List Expr) (g' : DS) (b : Bool) : Prop := PTs X es (tTb X.K F S g g' b)
theorem pts_mono {ifs : List Expr} {t t' : TT} (h : PTs X ifs t) (m : ∀ σ H Q, t' σ H Q → t σ H Q) : PTs X ifs t' := ⟨fun pins s σ H Q I q => h.run pins s σ H Q I (m σ H Q q)⟩
theorem pts_union {ι : Type} {es : List Expr} {P : ι → Prop} {t : ι → TT} (h : ∀ i, P i → PTs X es (t i)) : PTs X es (fun σ H Q => ∃ i, P i ∧ t i σ H Q) := ⟨fun pins s σ H Q I ⟨i, p, q⟩ => (h i p).run pins s σ H Q I q⟩
theorem xts_nil : XTs X F S g [] g true := pts_mono pts_nil fun σ H Q ⟨Hs, A, ok, k⟩ => k Hs H (Same.refl _) ok
theorem xts_one {b' : Bool} (h : XT X F S g c g1 b') : XTs X F S g [c] g1 b' := pts_one h
/-- one turn: the target, the test, the element; whatever the lists behind the slots -/
def LStep (X : Cx) (scope : Scope) (F : Fm) (vs : List Nat) (S : List Sl) (tg : Expr) (ifs : List Expr) (elt : Expr) (x : D) (g : DS) (r : Option D) (g' : DS) : Prop :=
  ∃ (S1 : List Sl) (b : Bool) (gm : DS), Outs vs (wipeS S vs) S1 ∧ (∀ (s : Shared) (H : Hp) (C : Addr) (cl : List (Str × Addr)) (fp : List Addr), XL (X.blk s H scope (compEnvC scope cl C X.env) fp) F vs (wipeS S vs) tg x S1) ∧
    (∀ (T : List Sl) (s : Shared) (H : Hp) (C : Addr) (cl : List (Str × Addr)) (fp : List Addr), XTs (X.blk s H scope (compEnvC scope cl C X.env) fp) F (S1 ++ T) g ifs gm b) ∧
    (match r with
      | some y => b = true ∧ ∀ (T : List Sl) (s : Shared) (H : Hp) (C : Addr) (cl : List (Str × Addr)) (fp : List Addr), XE (X.blk s H scope (compEnvC scope cl C X.env) fp) F (S1 ++ T) gm elt g' y
      | none => b = false ∧ gm = g')
def lG (X : Cx) (scope : Scope) (F : Fm) (vs : List Nat) (tg : Expr) : TG := fun v σ H Q => ∃ p : List Sl × D × List Sl, (∀ (s : Shared) (H : Hp) (C : Addr) (cl : List (Str × Addr)) (fp : List Addr), PG (X.blk s H scope (compEnvC scope cl C X.env) fp) tg (tGl X.K F vs p.1 p.2.1 p.2.2)) ∧ tGl X.K F vs p.1 p.2.1 p.2.2 v σ H Q
def lT (X : Cx) (scope : Scope) (F : Fm) (ifs : List Expr) : TT := fun σ H Q => ∃ p : List Sl × DS × DS × Bool, (∀ (s : Shared) (H : Hp) (C : Addr) (cl : List (Str × Addr)) (fp : List Addr), XTs (X.blk s H scope (compEnvC scope cl C X.env) fp) F p.1 p.2.1 ifs p.2.2.1 p.2.2.2) ∧ tTb X.K F p.1 p.2.1 p.2.2.1 p.2.2.2 σ H Q
def lE (X : Cx) (scope : Scope) (F : Fm) (elt : Expr) : TE := fun σ H Q => ∃ p : List Sl × DS × DS × D, (∀ (s : Shared) (H : Hp) (C : Addr) (cl : List (Str × Addr)) (fp : List Addr), XE (X.blk s H scope (compEnvC scope cl C X.env) fp) F p.1 p.2.1 elt p.2.2.1 p.2.2.2) ∧ tE X.K F p.1 p.2.1 p.2.2.1 p.2.2.2 σ H Q
/-- what holds ahead of turn i: the list at Dl is acc -/
def LAt (X : Cx) (scope : Scope) (F : Fm) (vs : List Nat) (S : List Sl) (tg : Expr) (ifs : List Expr) (elt : Expr) (Hs0 : Hp) (A : Nat → Addr) (σ : L2.St) (ds ys : List D) (gE : DS) (i : Nat) (H : Hp) : Prop :=
  ∃ (Hs : Hp) (g : DS) (acc rest : List D), Same Hs0 Hs ∧ Ok X.K F Hs A H σ (S ++ [.own acc]) g ∧ Lr (LStep X scope F vs S tg ifs elt) (ds.drop i) g rest gE ∧ acc ++ rest = ys
theorem l_turn {scope : Scope} {vs : List Nat} {ifs : List Expr} {elt : Expr} {Hs0 H : Hp} {A : Nat → Addr} {σ : L2.St} {ys : List D} {gE : DS} {i : Nat} {v : V} (hw : ∀ i ∈ vs, notOwn S[i]? = true) (hv : ∀ i ∈ vs, i < S.length) (hy : ys.length < sizeLine) (p : LAt X scope F vs S tg ifs elt Hs0 A σ ds ys gE i H) (hx : ds[i]? = some x) (hr : ∀ Hs, Same Hs0 Hs → Rp X.K Hs v x) :
    lG X scope F vs tg v (L2.wipe σ vs) H fun σ2 H2 => L2.wipe σ2 vs = L2.wipe σ vs ∧ lT X scope F ifs σ2 H2 fun b H3 =>
      if b = true then lE X scope F elt σ2 H3 fun y H4 => ∃ acc, H4 (A S.length) = some (.lst acc) ∧ acc.length < sizeLine ∧ LAt X scope F vs S tg ifs elt Hs0 A σ ds ys gE (i + 1) (upd H4 (A S.length) (.lst (acc ++ [y]))) else LAt X scope F vs S tg ifs elt Hs0 A σ ds ys gE (i + 1) H3 := by
  obtain ⟨Hs, g, acc, rest, e, ok, lr, hys⟩ := p
  have ed : ds.drop i = x :: ds.drop (i + 1) := by
    obtain ⟨h1, h2⟩ := List.getElem?_eq_some_iff.mp hx
    rw [← h2]
    exact List.drop_eq_getElem_cons h1
  rw [ed] at lr
  have ww : ∀ us : List Nat, (∀ i ∈ us, i < S.length) → wipeS (S ++ [Sl.own acc]) us = wipeS S us ++ [Sl.own acc] := fun us => by
    induction us with
    | nil => intro _; rfl
    | cons u us ih =>
      intro h
      unfold wipeS
      rw [ih (fun i q => h i (List.mem_cons_of_mem _ q)), List.set_append_left _ _ (by rw [wipeS_len]; exact h u List.mem_cons_self)]
  have okw := ok.wipe vs
  rw [ww vs hv] at okw
  have go : ∀ (r : Option D) (g1 : DS), LStep X scope F vs S tg ifs elt x g r g1 → (∀ y, r = some y → ∃ rest', rest = y :: rest' ∧ Lr (LStep X scope F vs S tg ifs elt) (ds.drop (i + 1)) g1 rest' gE) → (r = none → Lr (LStep X scope F vs S tg ifs elt) (ds.drop (i + 1)) g1 rest gE) →
      lG X scope F vs tg v (L2.wipe σ vs) H fun σ2 H2 => L2.wipe σ2 vs = L2.wipe σ vs ∧ lT X scope F ifs σ2 H2 fun b H3 =>
        if b = true then lE X scope F elt σ2 H3 fun y H4 => ∃ acc, H4 (A S.length) = some (.lst acc) ∧ acc.length < sizeLine ∧ LAt X scope F vs S tg ifs elt Hs0 A σ ds ys gE (i + 1) (upd H4 (A S.length) (.lst (acc ++ [y]))) else LAt X scope F vs S tg ifs elt Hs0 A σ ds ys gE (i + 1) H3 := by
    rintro r g1 ⟨S1, b, gm, hO, hL, hT, hE⟩ h1 h2
    have l1 : S1.length = S.length := by rw [hO.2, wipeS_len]
    have hout : ∀ (i : Nat) (es : List D), (S ++ [Sl.own acc])[i]? = some (.own es) → (S1 ++ [Sl.own acc])[i]? = some (.own es) := fun j es hj => by
      by_cases hj1 : j < S.length
      · rw [List.getElem?_append_left hj1] at hj
        rw [List.getElem?_append_left (by omega)]
        have nv : j ∉ vs := fun q => by
          have := hw j q
          rw [hj] at this
          cases this
        rw [hO.1 j nv, wipeS_out nv]
        exact hj
      · rw [List.getElem?_append_right (by omega)] at hj ⊢
        rw [l1]
        exact hj
    refine ⟨(wipeS S vs ++ [.own acc], x, S1 ++ [.own acc]), fun s H C cl fp => hL s H C cl fp _, Hs, A, g, okw, hr Hs e, fun σ2 w2 ok2 => ?_⟩
    have hσ : σ2.length = σ.length := by
      have := congrArg List.length w2
      rw [L2.wipe_length, L2.wipe_length, L2.wipe_length] at this
      exact this
    have w2' : L2.wipe σ2 vs = L2.wipe σ vs := by
      rw [w2]
      have : ∀ us ws : List Nat, (∀ i ∈ ws, i ∈ us) → L2.wipe (L2.wipe σ us) ws = L2.wipe σ us := fun us ws => by
        induction ws with
        | nil => intro _; rfl
        | cons u ws ih =>
          intro h
          show (L2.wipe (L2.wipe σ us) ws).set u none = L2.wipe σ us
          rw [ih (fun i q => h i (List.mem_cons_of_mem _ q))]
          have hu := h u List.mem_cons_self
          refine List.ext_getElem? fun j => ?_
          by_cases hj : u = j
          · subst hj
            by_cases hl : u < (L2.wipe σ us).length
            · rw [List.getElem?_set_self hl]
              cases q : (L2.wipe σ us)[u]? with
              | none => rw [List.getElem?_eq_none_iff] at q; omega
              | some z =>
                cases z with
                | none => rfl
                | some z => exact absurd hu (L2.wipe_some q).2
            · rw [List.getElem?_eq_none (by rw [List.length_set]; omega), List.getElem?_eq_none (by omega)]
          · rw [List.getElem?_set_ne hj]
      exact this vs vs fun _ q => q
    refine ⟨w2', (S1 ++ [.own acc], g, gm, b), fun s H C cl fp => hT _ s H C cl fp, Hs, A, ok2, fun Hs3 H3 e3 ok3 => ?_⟩
    cases r with
    | none =>
      obtain ⟨hb, hg⟩ := hE
      subst hb hg
      refine iteF ⟨Hs3, gm, acc, rest, e.trans e3, ok.restore e3 ok3 hσ hout, h2 rfl, hys⟩
    | some y =>
      obtain ⟨hb, hE⟩ := hE
      subst hb
      refine iteT ⟨(S1 ++ [.own acc], gm, g1, y), fun s H C cl fp => hE _ s H C cl fp, Hs3, A, ok3, fun w Hs4 H4 e4 ok4 r4 => ?_⟩
      obtain ⟨rest', hrest, lr'⟩ := h1 y rfl
      have hD : (S1 ++ [Sl.own acc])[S.length]? = some (.own acc) := by
        rw [List.getElem?_append_right (by omega), l1, Nat.sub_self]
        rfl
      obtain ⟨_, _, _, ⟨us, hu1, hu2⟩, _⟩ := ok4.own S.length acc hD
      have ok5 := ok4.mut hD (hu2.append (.cons r4 .nil))
      rw [← l1, List.set_append_right _ _ (Nat.le_refl _), Nat.sub_self] at ok5
      have ok6 : Ok X.K F Hs4 A (upd H4 (A S.length) (.lst (us ++ [w]))) σ (S ++ [.own (acc ++ [y])]) g1 := by
        have okA : Ok X.K F Hs4 A H4 σ (S ++ [.own acc]) g1 := ok.restore (e3.trans e4) ok4 hσ hout
        have hD' : (S ++ [Sl.own acc])[S.length]? = some (.own acc) := by
          rw [List.getElem?_append_right (Nat.le_refl _), Nat.sub_self]
          rfl
        have := okA.mut hD' (hu2.append (.cons r4 .nil))
        rw [List.set_append_right _ _ (Nat.le_refl _), Nat.sub_self] at this
        exact this
      refine ⟨us, hu1, ?_, Hs4, g1, acc ++ [y], rest', (e.trans e3).trans e4, ok6, lr', ?_⟩
      · rw [hu2.len]
        have := congrArg List.length hys
        rw [List.length_append] at this
        omega
      · rw [← hys, hrest, List.append_assoc]
        rfl
  cases lr with
  | keep h t => exact go _ _ h (fun y q => by cases q; exact ⟨_, rfl, t⟩) (fun q => nomatch q)
  | skip h t => exact go _ _ h (fun y q => nomatch q) (fun _ => t)
theorem l_end {scope : Scope} {vs : List Nat} {ifs : List Expr} {elt : Expr} {Hs0 H : Hp} {A : Nat → Addr} {σ : L2.St} {ys : List D} {gE : DS} {n : Nat} (hn : ds.length ≤ n) (p : LAt X scope F vs S tg ifs elt Hs0 A σ ds ys gE n H) : ∃ Hs, Same Hs0 Hs ∧ Ok X.K F Hs A H σ (S ++ [.own ys]) gE := by
  obtain ⟨Hs, g, acc, rest, e, ok, lr, hys⟩ := p
  rw [List.drop_eq_nil_of_le hn] at lr
  cases lr
  rw [List.append_nil] at hys
  subst hys
  exact ⟨Hs, e, ok⟩
/-- the hidden list comes out -/
theorem Ok.unhide {K : PySem.W.Frag} {Hs H : Hp} {A A0 : Nat → Addr} {σ : L2.St} {ys : List D} {q : Addr} (ok : Ok K F Hs A H σ (S ++ [.own ys]) g) (hA : ∀ n, A n = if n = S.length then q else A0 n) (hl : σ.length ≤ S.length) :
    Ok K F Hs A0 H σ S g ∧ Hs q = none ∧ F.H0 q = none ∧ (∃ vs, H q = some (.lst vs) ∧ Rps K Hs vs ys) ∧ (F.dl = true → q ≠ F.a ∧ q ≠ F.c) ∧ ∀ (j : Nat) (es : List D), S[j]? = some (.own es) → A0 j ≠ q := by
  have hD : (S ++ [Sl.own ys])[S.length]? = some (.own ys) := by
    rw [List.getElem?_append_right (Nat.le_refl _), Nat.sub_self]
    rfl
  have up : ∀ (i : Nat) (s : Sl), S[i]? = some s → (S ++ [Sl.own ys])[i]? = some s ∧ A i = A0 i := fun i s h => by
    have hi := (List.getElem?_eq_some_iff.mp h).1
    exact ⟨by rw [List.getElem?_append_left hi]; exact h, by rw [hA, if_neg (by omega)]⟩
  have eq : A S.length = q := by rw [hA, if_pos rfl]
  obtain ⟨_, d2, d3, d4, d5⟩ := ok.own S.length ys hD
  rw [eq] at d2 d3 d4 d5
  refine ⟨⟨ok.toFin, hl, fun i d h => ok.val i d (up i _ h).1, fun i ds h => ?_, fun i j ds es hi hj e => ?_, fun i h => ok.dref i (up i _ h).1, fun i x h => ok.raw i x (up i _ h).1⟩, d2, d3, d4, d5, fun j es h e => ?_⟩
  · have := ok.own i ds (up i _ h).1
    rw [(up i _ h).2] at this
    exact this
  · refine ok.sep i j ds es (up i _ hi).1 (up j _ hj).1 ?_
    rw [(up i _ hi).2, (up j _ hj).2]; exact e
  · have e' : A j = A S.length := by rw [(up j _ h).2, eq]; exact e
    have := ok.sep j S.length es ys (up j _ h).1 hD e'
    have hj := (List.getElem?_eq_some_iff.mp h).1
    omega
end
end Z
namespace Z
open PySem PySem.Spec PyProof.Rows L2

section
variable {X : Cx} {F : Fm} {S S1 S2 : List Sl} {g g1 g2 g3 : DS} {a b c e tg elt iter : Expr} {es ifs : List Expr} {x y z d : D} {ds ys : List D} {i j : Int} {pos p p1 p2 p3 : Pos} {scope : Scope} {own : List (Str × Nat)} {vs : List Nat}

theorem lG_ok (s : Shared) (H : Hp) (C : Addr) (cl : List (Str × Addr)) (fp : List Addr) : PG (X.blk s H scope (compEnvC scope cl C X.env) fp) tg (lG X scope F vs tg) := pg_union fun _ h => h s H C cl fp
theorem lT_ok (s : Shared) (H : Hp) (C : Addr) (cl : List (Str × Addr)) (fp : List Addr) : PTs (X.blk s H scope (compEnvC scope cl C X.env) fp) ifs (lT X scope F ifs) := pts_union fun _ h => h s H C cl fp
theorem lE_ok (s : Shared) (H : Hp) (C : Addr) (cl : List (Str × Addr)) (fp : List Addr) : PE (X.blk s H scope (compEnvC scope cl C X.env) fp) elt (lE X scope F elt) := pe_union fun _ h => h s H C cl fp

/-- the block's slots are there, and none holds a list of ours -/
def wipeOk (S : List Sl) (vs : List Nat) : Bool := vs.all fun i => notOwn S[i]? && decide (i < S.length)
theorem wipeOk_of (h : wipeOk S vs = true) : (∀ i ∈ vs, notOwn S[i]? = true) ∧ ∀ i ∈ vs, i < S.length := by
  unfold wipeOk at h
  rw [List.all_eq_true] at h
  refine ⟨fun i hi => ?_, fun i hi => ?_⟩
  · have := h i hi
    rw [Bool.and_eq_true] at this
    exact this.1
  · have := h i hi
    rw [Bool.and_eq_true, decide_eq_true_eq] at this
    exact this.2
/-- what a walk of data asks of the loop -/
theorem lc_mid {Hs1 H1 : Hp} {A : Nat → Addr} {σ : L2.St} {Q : VK} {Dl : Addr} (hwv : wipeOk S vs = true) (hy : ys.length < sizeLine) (ok1 : Ok X.K F Hs1 A H1 σ S g1) (lr : Lr (LStep X scope F vs S tg ifs elt) ds g1 ys g2) (k : kN X.K F A σ S g2 ys Hs1 Q) (hD : H1 Dl = none) :
    ∃ Pv : Nat → Hp → Prop, Pv 0 (upd H1 Dl (.lst [])) ∧ (∀ i H, Pv i H → Same Hs1 H) ∧
      (∀ (i : Nat) (v : V) (x : D) H, ds[i]? = some x → (∀ Hs, Same Hs1 Hs → Rp X.K Hs v x) → Pv i H → lG X scope F vs tg v (L2.wipe σ vs) H fun σ2 H2 => L2.wipe σ2 vs = L2.wipe σ vs ∧ lT X scope F ifs σ2 H2 fun b H3 =>
        if b = true then lE X scope F elt σ2 H3 fun y H4 => ∃ acc, H4 Dl = some (.lst acc) ∧ acc.length < sizeLine ∧ Pv (i + 1) (upd H4 Dl (.lst (acc ++ [y]))) else Pv (i + 1) H3) ∧
      (∀ n H, ds.length ≤ n → Pv n H → Q (.ref Dl) H) := by
  obtain ⟨hw, hv⟩ := wipeOk_of hwv
  obtain ⟨A', hA'⟩ : ∃ A' : Nat → Addr, A' = fun n => if n = S.length then Dl else A n := ⟨_, rfl⟩
  have hq : A' S.length = Dl := by rw [hA']; exact if_pos rfl
  have okh := ok1.hide hD
  rw [← hA'] at okh
  refine ⟨LAt X scope F vs S tg ifs elt Hs1 A' σ ds ys g2, ⟨Hs1, g1, [], ys, Same.refl _, okh, lr, rfl⟩, ?_, ?_, ?_⟩
  · rintro i H ⟨Hs, _, _, _, e, ok, _⟩
    exact e.trans ok.ex
  · intro i v x H hx hr p
    have := l_turn hw hv hy p hx hr
    rw [hq] at this
    exact this
  · intro n H hn p
    obtain ⟨Hs, e, ok⟩ := l_end hn p
    obtain ⟨ok2, h1, h2, ⟨us, h3, h4⟩, h5, h6⟩ := ok.unhide (q := Dl) (A0 := A) (fun n => by rw [hA']) ok1.len
    exact k Dl us Hs H e ok2 h1 h2 h3 h5 h6 h4
theorem lc_L (hwv : wipeOk S vs = true) (hy : ys.length < sizeLine) (lr : Lr (LStep X scope F vs S tg ifs elt) ds g1 ys g2) {σ : L2.St} {H : Hp} {Q : VK} (q : tN X.K F S g g2 ys σ H Q) :
    tLc (iList X.K (tE X.K F S g g1 (.lst ds))) (lG X scope F vs tg) (lT X scope F ifs) (lE X scope F elt) vs σ H Q := by
  obtain ⟨Hs, A, ok, k⟩ := q
  refine ⟨Hs, A, ok, fun v Hs1 H1 e1 ok1 r1 => ?_⟩
  cases r1 with
  | lst q r =>
    refine ⟨_, rfl, ⟨_, .inl (.inl (ok1.ex _ _ q))⟩, fun Dl hD => ?_⟩
    obtain ⟨Pv, p0, ps, pt, pe⟩ := lc_mid hwv hy ok1 lr (fun p us Hs' H' e2 => k p us Hs' H' (e1.trans e2)) hD
    refine lc_list (K := X.K) Pv p0 (fun i H _ p => .inl (.inl (ps i H p _ _ q))) (fun i w H hx p => ?_) (fun H p => pe _ H (by rw [r.len]; exact Nat.le_refl _) p)
    obtain ⟨y, hy, ry⟩ := r.get' hx
    exact pt i w y H hy (fun Hs2 e2 => ry.mono e2) p
theorem lc_T (hwv : wipeOk S vs = true) (hy : ys.length < sizeLine) (lr : Lr (LStep X scope F vs S tg ifs elt) ds g1 ys g2) {σ : L2.St} {H : Hp} {Q : VK} (q : tN X.K F S g g2 ys σ H Q) :
    tLc (iTup X.K (tE X.K F S g g1 (.tup ds))) (lG X scope F vs tg) (lT X scope F ifs) (lE X scope F elt) vs σ H Q := by
  obtain ⟨Hs, A, ok, k⟩ := q
  refine ⟨Hs, A, ok, fun v Hs1 H1 e1 ok1 r1 => ?_⟩
  cases r1 with
  | tup q r =>
    refine ⟨_, rfl, ⟨_, sqt_mono ok1.ex q⟩, fun Dl hD => ?_⟩
    obtain ⟨Pv, p0, ps, pt, pe⟩ := lc_mid hwv hy ok1 lr (fun p us Hs' H' e2 => k p us Hs' H' (e1.trans e2)) hD
    refine lc_tup (K := X.K) Pv p0 (fun i H _ p => sqt_mono (ps i H p) q) (fun i w H hx p => ?_) (fun H p => pe _ H (by rw [r.len]; exact Nat.le_refl _) p)
    obtain ⟨y, hy, ry⟩ := r.get' hx
    exact pt i w y H hy (fun Hs2 e2 => ry.mono e2) p
theorem lc_R1 {j : Int} (hwv : wipeOk S vs = true) (hy : ys.length < sizeLine) (hj : -(2 ^ 62) ≤ j ∧ j < 2 ^ 62) (lr : Lr (LStep X scope F vs S tg ifs elt) (rngD 0 j.toNat) g1 ys g2) {σ : L2.St} {H : Hp} {Q : VK} (q : tN X.K F S g g2 ys σ H Q) :
    tLc (iRng1 (tDs X.K F S g g1 [.int j])) (lG X scope F vs tg) (lT X scope F ifs) (lE X scope F elt) vs σ H Q := by
  obtain ⟨Hs, A, ok, k⟩ := q
  refine ⟨Hs, A, ok, fun vv Hs1 H1 e1 ok1 r1 => ?_⟩
  cases r1 with
  | cons r t =>
    cases t
    cases r
    refine ⟨j, rfl, hj.1, hj.2, fun Dl hD => ?_⟩
    obtain ⟨Pv, p0, ps, pt, pe⟩ := lc_mid hwv hy ok1 lr (fun p us Hs' H' e2 => k p us Hs' H' (e1.trans e2)) hD
    exact lc_range Pv p0 (fun i H hi p => pt i _ _ H (rngD_get hi) (fun Hs2 e2 => .int _) p) (fun H p => pe _ H (by rw [rngD_len]; exact Nat.le_refl _) p)
theorem lc_R2 {i j : Int} (hwv : wipeOk S vs = true) (hy : ys.length < sizeLine) (hj : -(2 ^ 62) ≤ i ∧ i < 2 ^ 62 ∧ -(2 ^ 62) ≤ j ∧ j < 2 ^ 62) (lr : Lr (LStep X scope F vs S tg ifs elt) (rngD i (j - i).toNat) g1 ys g2) {σ : L2.St} {H : Hp} {Q : VK} (q : tN X.K F S g g2 ys σ H Q) :
    tLc (iRng2 (tDs X.K F S g g1 [.int i, .int j])) (lG X scope F vs tg) (lT X scope F ifs) (lE X scope F elt) vs σ H Q := by
  obtain ⟨Hs, A, ok, k⟩ := q
  refine ⟨Hs, A, ok, fun vv Hs1 H1 e1 ok1 r1 => ?_⟩
  cases r1 with
  | cons r t =>
    cases t with
    | cons r' t =>
      cases t
      cases r
      cases r'
      refine ⟨i, j, rfl, hj, fun Dl hD => ?_⟩
      obtain ⟨Pv, p0, ps, pt, pe⟩ := lc_mid hwv hy ok1 lr (fun p us Hs' H' e2 => k p us Hs' H' (e1.trans e2)) hD
      exact lc_range Pv p0 (fun n H hi p => pt n _ _ H (rngD_get hi) (fun Hs2 e2 => .int _) p) (fun H p => pe _ H (by rw [rngD_len]; exact Nat.le_refl _) p)

/-! the rules -/
theorem xn_lcL (own : List (Str × Nat)) (hN : X.N.Nodup) (hi : XE X F S g iter g1 (.lst ds)) (lr : Lr (LStep X scope F (own.map (·.2)) S tg ifs elt) ds g1 ys g2) (hy : ys.length < sizeLine) (ok : BlkOk X.N X.env.scope scope own) (hwv : wipeOk S (own.map (·.2)) = true := by rfl) (hc : X.calm = true := by rfl)
    (hs : ∀ x, foldedSetIterable iter X.env x = pure x := by intro _; rfl) : XN X F S g (.ListComp elt [⟨tg, iter, ifs, 0⟩] scope pos) g2 ys :=
  pe_mono (pe_lc hc hN (pi_list hi) ok lG_ok lT_ok lE_ok hs) fun σ H Q q => lc_L hwv hy lr q
theorem xn_lcT (own : List (Str × Nat)) (hN : X.N.Nodup) (hi : XE X F S g iter g1 (.tup ds)) (lr : Lr (LStep X scope F (own.map (·.2)) S tg ifs elt) ds g1 ys g2) (hy : ys.length < sizeLine) (ok : BlkOk X.N X.env.scope scope own) (hwv : wipeOk S (own.map (·.2)) = true := by rfl) (hc : X.calm = true := by rfl)
    (hs : ∀ x, foldedSetIterable iter X.env x = pure x := by intro _; rfl) : XN X F S g (.ListComp elt [⟨tg, iter, ifs, 0⟩] scope pos) g2 ys :=
  pe_mono (pe_lc hc hN (pi_tup hi) ok lG_ok lT_ok lE_ok hs) fun σ H Q q => lc_T hwv hy lr q
theorem xn_lcR1 (own : List (Str × Nat)) (hN : X.N.Nodup) (hi : XD X F S g [a] g1 [.int j]) (hj : -(2 ^ 62) ≤ j ∧ j < 2 ^ 62) (lr : Lr (LStep X scope F (own.map (·.2)) S tg ifs elt) (rngD 0 j.toNat) g1 ys g2) (hy : ys.length < sizeLine) (ok : BlkOk X.N X.env.scope scope own) (hm : X.mg "range" = none)
    (hwv : wipeOk S (own.map (·.2)) = true := by rfl) (hg : Gl X "range" := by rfl) (hc : X.calm = true := by rfl) (hs1 : starEach [a] X.env = [(false, eval a X.env)] := by rfl) (hs : ∀ x, foldedSetIterable (.Call (.Name "range" p1) [a] [] p2) X.env x = pure x := by intro _; rfl) :
    XN X F S g (.ListComp elt [⟨tg, .Call (.Name "range" p1) [a] [] p2, ifs, 0⟩] scope pos) g2 ys :=
  pe_mono (pe_lc hc hN (pi_range1 hg hm hi hs1) ok lG_ok lT_ok lE_ok hs) fun σ H Q q => lc_R1 hwv hy hj lr q
theorem xn_lcR2 (own : List (Str × Nat)) (hN : X.N.Nodup) (hi : XD X F S g [a, b] g1 [.int i, .int j]) (hj : -(2 ^ 62) ≤ i ∧ i < 2 ^ 62 ∧ -(2 ^ 62) ≤ j ∧ j < 2 ^ 62) (lr : Lr (LStep X scope F (own.map (·.2)) S tg ifs elt) (rngD i (j - i).toNat) g1 ys g2) (hy : ys.length < sizeLine) (ok : BlkOk X.N X.env.scope scope own) (hm : X.mg "range" = none)
    (hwv : wipeOk S (own.map (·.2)) = true := by rfl) (hg : Gl X "range" := by rfl) (hc : X.calm = true := by rfl) (hs1 : starEach [a, b] X.env = [(false, eval a X.env), (false, eval b X.env)] := by rfl) (hs2 : starEach [b] X.env = [(false, eval b X.env)] := by rfl) (hs : ∀ x, foldedSetIterable (.Call (.Name "range" p1) [a, b] [] p2) X.env x = pure x := by intro _; rfl) :
    XN X F S g (.ListComp elt [⟨tg, .Call (.Name "range" p1) [a, b] [] p2, ifs, 0⟩] scope pos) g2 ys :=
  pe_mono (pe_lc hc hN (pi_range2 hg hm hi hs1 hs2) ok lG_ok lT_ok lE_ok hs) fun σ H Q q => lc_R2 hwv hy hj lr q
/-! name = [..], the name a local -/
theorem xs_nN {n : Nat} {σ : L2.St} {H : Hp} {En : Ends} (hl : n < σ.length) (q : tSt X.K F S g (.nx (S.set n (.own ys)) g2) En σ H) : tN X.K F S g g2 ys σ H (fun x H1 => gName n x σ H1 En.nx) := by
  obtain ⟨Hs, A, ok, k⟩ := q
  exact ⟨Hs, A, ok, fun p us Hs1 H1 e1 ok1 h1 h2 h3 h4 h5 r1 => k Hs1 _ H1 _ e1 (ok1.setown hl h1 h2 h3 h4 h5 r1)⟩
theorem xs_lcL (n : Nat) (own : List (Str × Nat)) {nm : Str} {py : Pos} (hN : X.N.Nodup) (hi : XE X F S g iter g1 (.lst ds)) (lr : Lr (LStep X scope F (own.map (·.2)) S tg ifs elt) ds g1 ys g2) (hy : ys.length < sizeLine) (ok : BlkOk X.N X.env.scope scope own)
    (hsw : swapsWith (.ListComp elt [⟨tg, iter, ifs, 0⟩] scope pos) (some (.Name nm py)) p.line X.env = pure true) (hwv : wipeOk S (own.map (·.2)) = true := by rfl) (hn : X.N[n]? = some nm := by rfl) (hyl : X.env.scope.names.lookup nm = some .local := by rfl) (hc : X.calm = true := by rfl)
    (hs : ∀ x, foldedSetIterable iter X.env x = pure x := by intro _; rfl) : XS X F S g (.Assign [.Name nm py] (.ListComp elt [⟨tg, iter, ifs, 0⟩] scope pos) p) (.nx (S.set n (.own ys)) g2) :=
  ⟨fun pins s σ H En I q => (ps_setLc hc hN hn hyl hsw (pi_list hi) ok lG_ok lT_ok lE_ok hs).run pins s σ H En I (lc_L hwv hy lr (xs_nN (by rw [I.len]; exact (List.getElem?_eq_some_iff.mp hn).1) q))⟩
theorem xs_lcT (n : Nat) (own : List (Str × Nat)) {nm : Str} {py : Pos} (hN : X.N.Nodup) (hi : XE X F S g iter g1 (.tup ds)) (lr : Lr (LStep X scope F (own.map (·.2)) S tg ifs elt) ds g1 ys g2) (hy : ys.length < sizeLine) (ok : BlkOk X.N X.env.scope scope own)
    (hsw : swapsWith (.ListComp elt [⟨tg, iter, ifs, 0⟩] scope pos) (some (.Name nm py)) p.line X.env = pure true) (hwv : wipeOk S (own.map (·.2)) = true := by rfl) (hn : X.N[n]? = some nm := by rfl) (hyl : X.env.scope.names.lookup nm = some .local := by rfl) (hc : X.calm = true := by rfl)
    (hs : ∀ x, foldedSetIterable iter X.env x = pure x := by intro _; rfl) : XS X F S g (.Assign [.Name nm py] (.ListComp elt [⟨tg, iter, ifs, 0⟩] scope pos) p) (.nx (S.set n (.own ys)) g2) :=
  ⟨fun pins s σ H En I q => (ps_setLc hc hN hn hyl hsw (pi_tup hi) ok lG_ok lT_ok lE_ok hs).run pins s σ H En I (lc_T hwv hy lr (xs_nN (by rw [I.len]; exact (List.getElem?_eq_some_iff.mp hn).1) q))⟩
theorem xs_lcR1 (n : Nat) (own : List (Str × Nat)) {nm : Str} {py : Pos} (hN : X.N.Nodup) (hi : XD X F S g [a] g1 [.int j]) (hj : -(2 ^ 62) ≤ j ∧ j < 2 ^ 62) (lr : Lr (LStep X scope F (own.map (·.2)) S tg ifs elt) (rngD 0 j.toNat) g1 ys g2) (hy : ys.length < sizeLine) (ok : BlkOk X.N X.env.scope scope own) (hm : X.mg "range" = none)
    (hsw : swapsWith (.ListComp elt [⟨tg, .Call (.Name "range" p1) [a] [] p2, ifs, 0⟩] scope pos) (some (.Name nm py)) p.line X.env = pure true) (hwv : wipeOk S (own.map (·.2)) = true := by rfl) (hg : Gl X "range" := by rfl) (hn : X.N[n]? = some nm := by rfl) (hyl : X.env.scope.names.lookup nm = some .local := by rfl) (hc : X.calm = true := by rfl)
    (hs1 : starEach [a] X.env = [(false, eval a X.env)] := by rfl) (hs : ∀ x, foldedSetIterable (.Call (.Name "range" p1) [a] [] p2) X.env x = pure x := by intro _; rfl) : XS X F S g (.Assign [.Name nm py] (.ListComp elt [⟨tg, .Call (.Name "range" p1) [a] [] p2, ifs, 0⟩] scope pos) p) (.nx (S.set n (.own ys)) g2) :=
  ⟨fun pins s σ H En I q => (ps_setLc hc hN hn hyl hsw (pi_range1 hg hm hi hs1) ok lG_ok lT_ok lE_ok hs).run pins s σ H En I (lc_R1 hwv hy hj lr (xs_nN (by rw [I.len]; exact (List.getElem?_eq_some_iff.mp hn).1) q))⟩
/-- a list of ours is forgotten, the rest goes on as of a datum -/
theorem xb_consF (n : Nat) {st : Stmt} {rest : List Stmt} {o : Out} (h : XS X F S g st (.nx (S.set n (.own ys)) g1)) (t : XB X F (S.set n (.v (.lst ys))) g1 rest o) (hl : n < X.N.length := by first | decide | exact Nat.le_of_ble_eq_true rfl) (hS : n < S.length := by first | decide | exact Nat.le_of_ble_eq_true rfl) : XB X F S g (st :: rest) o :=
  xb_cons h (xb_frz n (List.getElem?_set_self hS) (by rw [List.set_set]; exact t) hl)
end
end Z
/-! Numbers of fields, in plain Lean: fractions (Rat), remainders (_root_.Fin p). -/
namespace Z
open PySem PySem.Spec PyProof.Rows L2

def P100 : List Nat := [2, 3, 5, 7, 11, 13, 17, 19, 23, 29, 31, 37, 41, 43, 47, 53, 59, 61, 67, 71, 73, 79, 83, 89, 97]
theorem P100_two : ∀ p ∈ P100, 2 ≤ p ∧ p < 100 := by decide +kernel
/-- a field: fractions, or remainders by a prime below 100 -/
inductive FK where
  | rat | mod (p : Nat) (h : p ∈ P100)
namespace FK
/-- Python's number of the field -/
def f : FK → Int
  | .rat => 0
  | .mod p _ => p
abbrev α : FK → Type
  | .rat => Rat
  | .mod p _ => _root_.Fin p
def rep : (k : FK) → k.α → D
  | .rat, r => .tup [.int r.num, .int r.den]
  | .mod _ _, a => .int a.val
instance dec : (k : FK) → DecidableEq k.α
  | .rat => inferInstanceAs (DecidableEq Rat)
  | .mod p _ => inferInstanceAs (DecidableEq (_root_.Fin p))
theorem pos {p : Nat} (h : p ∈ P100) : 0 < p := by have := (P100_two p h).1; omega
def modF {p : Nat} (h : p ∈ P100) (n : Nat) : _root_.Fin p := ⟨n % p, Nat.mod_lt _ (pos h)⟩
def zero : (k : FK) → k.α
  | .rat => (0 : Rat)
  | .mod _ h => modF h 0
def one : (k : FK) → k.α
  | .rat => (1 : Rat)
  | .mod _ h => modF h 1
def add : (k : FK) → k.α → k.α → k.α
  | .rat, a, b => (Add.add a b : Rat)
  | .mod _ h, a, b => modF h (a.val + b.val)
def mul : (k : FK) → k.α → k.α → k.α
  | .rat, a, b => (Mul.mul a b : Rat)
  | .mod _ h, a, b => modF h (a.val * b.val)
def neg : (k : FK) → k.α → k.α
  | .rat, a => (Neg.neg a : Rat)
  | .mod p h, a => modF h (p - a.val)
/-- n to the m, by squares, as the program reckons it: the last of its numbers -/
def inv : (k : FK) → k.α → k.α
  | .rat, a => (Inv.inv a : Rat)
  | .mod p h, a => modF h (a.val ^ (p - 2))
theorem fin_ext {p : Nat} {a b : _root_.Fin p} (h : a.val = b.val) : a = b := _root_.Fin.ext h
theorem add_comm (k : FK) (a b : k.α) : k.add a b = k.add b a := by
  cases k with
  | rat => exact Rat.add_comm a b
  | mod p h => exact fin_ext (by show (a.val + b.val) % p = (b.val + a.val) % p; rw [Nat.add_comm])
theorem add_assoc (k : FK) (a b c : k.α) : k.add (k.add a b) c = k.add a (k.add b c) := by
  cases k with
  | rat => exact Rat.add_assoc a b c
  | mod p h => exact fin_ext (by show ((a.val + b.val) % p + c.val) % p = (a.val + (b.val + c.val) % p) % p; rw [Nat.mod_add_mod, Nat.add_mod_mod, Nat.add_assoc])
theorem mul_comm (k : FK) (a b : k.α) : k.mul a b = k.mul b a := by
  cases k with
  | rat => exact Rat.mul_comm a b
  | mod p h => exact fin_ext (by show (a.val * b.val) % p = (b.val * a.val) % p; rw [Nat.mul_comm])
theorem mul_assoc (k : FK) (a b c : k.α) : k.mul (k.mul a b) c = k.mul a (k.mul b c) := by
  cases k with
  | rat => exact Rat.mul_assoc a b c
  | mod p h => exact fin_ext (by show ((a.val * b.val) % p * c.val) % p = (a.val * ((b.val * c.val) % p)) % p; rw [Nat.mod_mul_mod, Nat.mul_mod_mod, Nat.mul_assoc])
theorem mul_add (k : FK) (a b c : k.α) : k.mul a (k.add b c) = k.add (k.mul a b) (k.mul a c) := by
  cases k with
  | rat => exact Rat.mul_add a b c
  | mod p h => exact fin_ext (by show (a.val * ((b.val + c.val) % p)) % p = ((a.val * b.val) % p + (a.val * c.val) % p) % p; rw [Nat.mul_mod_mod, Nat.mod_add_mod, Nat.add_mod_mod, Nat.mul_add])
theorem add_mul (k : FK) (a b c : k.α) : k.mul (k.add a b) c = k.add (k.mul a c) (k.mul b c) := by
  rw [k.mul_comm, k.mul_add, k.mul_comm c a, k.mul_comm c b]
theorem add_zero (k : FK) (a : k.α) : k.add a k.zero = a := by
  cases k with
  | rat => exact Rat.add_zero a
  | mod p h => exact fin_ext (by show (a.val + 0 % p) % p = a.val; rw [Nat.zero_mod, Nat.add_zero, Nat.mod_eq_of_lt a.isLt])
theorem zero_add (k : FK) (a : k.α) : k.add k.zero a = a := by rw [k.add_comm, k.add_zero]
theorem mul_one (k : FK) (a : k.α) : k.mul a k.one = a := by
  cases k with
  | rat => exact Rat.mul_one a
  | mod p h => exact fin_ext (by
      have h2 := (P100_two p h).1
      show (a.val * (1 % p)) % p = a.val
      rw [Nat.mod_eq_of_lt (show 1 < p by omega), Nat.mul_one, Nat.mod_eq_of_lt a.isLt])
theorem one_mul (k : FK) (a : k.α) : k.mul k.one a = a := by rw [k.mul_comm, k.mul_one]
theorem mul_zero (k : FK) (a : k.α) : k.mul a k.zero = k.zero := by
  cases k with
  | rat => exact Rat.mul_zero a
  | mod p h => exact fin_ext (by show (a.val * (0 % p)) % p = 0 % p; rw [Nat.zero_mod, Nat.mul_zero, Nat.zero_mod])
theorem zero_mul (k : FK) (a : k.α) : k.mul k.zero a = k.zero := by rw [k.mul_comm, k.mul_zero]
theorem add_neg (k : FK) (a : k.α) : k.add a (k.neg a) = k.zero := by
  cases k with
  | rat => exact Rat.add_neg_cancel a
  | mod p h => exact fin_ext (by
      show (a.val + (p - a.val) % p) % p = 0 % p
      have := a.isLt
      rw [Nat.add_mod_mod, show a.val + (p - a.val) = p by omega, Nat.mod_self, Nat.zero_mod])
theorem neg_add (k : FK) (a : k.α) : k.add (k.neg a) a = k.zero := by rw [k.add_comm, k.add_neg]
theorem one_ne (k : FK) : k.one ≠ k.zero := by
  cases k with
  | rat => exact (by decide : (1 : Rat) ≠ 0)
  | mod p h =>
    intro e
    have h2 := (P100_two p h).1
    have := congrArg _root_.Fin.val e
    have h3 : 1 % p = 0 % p := this
    rw [Nat.zero_mod, Nat.mod_eq_of_lt (show 1 < p by omega)] at h3
    cases h3
theorem invP : ∀ p ∈ P100, ∀ a < p, a ≠ 0 → (a * (a ^ (p - 2) % p)) % p = 1 := by decide +kernel
theorem mul_inv (k : FK) (a : k.α) (ha : a ≠ k.zero) : k.mul a (k.inv a) = k.one := by
  cases k with
  | rat => exact Rat.mul_inv_cancel a ha
  | mod p h => exact fin_ext (by
      have h2 := (P100_two p h).1
      show (a.val * (a.val ^ (p - 2) % p)) % p = 1 % p
      rw [Nat.mod_eq_of_lt (show 1 < p by omega)]
      refine invP p h a.val a.isLt fun e => ha (fin_ext ?_)
      show a.val = 0 % p
      rw [e, Nat.zero_mod])
theorem inv_mul (k : FK) (a : k.α) (ha : a ≠ k.zero) : k.mul (k.inv a) a = k.one := by rw [k.mul_comm, k.mul_inv a ha]
theorem inv_ne (k : FK) (a : k.α) (ha : a ≠ k.zero) : k.inv a ≠ k.zero := fun e => by
  have := k.mul_inv a ha
  rw [e, k.mul_zero] at this
  exact k.one_ne this.symm
/-- what undoes is one alone -/
theorem inv_eq (k : FK) {a b : k.α} (h : k.mul a b = k.one) : k.inv a = b := by
  have ha : a ≠ k.zero := fun e => by rw [e, k.zero_mul] at h; exact k.one_ne h.symm
  have : k.mul (k.mul (k.inv a) a) b = b := by rw [k.inv_mul a ha, k.one_mul]
  rw [k.mul_assoc, h, k.mul_one] at this
  exact this
theorem inv_inv (k : FK) (a : k.α) (ha : a ≠ k.zero) : k.inv (k.inv a) = a := k.inv_eq (k.inv_mul a ha)
theorem mul_eq_zero (k : FK) {a b : k.α} (h : k.mul a b = k.zero) : a = k.zero ∨ b = k.zero := by
  by_cases ha : a = k.zero
  · exact .inl ha
  · refine .inr ?_
    have : k.mul (k.inv a) (k.mul a b) = k.zero := by rw [h, k.mul_zero]
    rw [← k.mul_assoc, k.inv_mul a ha, k.one_mul] at this
    exact this
theorem neg_eq (k : FK) {a b : k.α} (h : k.add a b = k.zero) : k.neg a = b := by
  have : k.add (k.add (k.neg a) a) b = b := by rw [k.neg_add, k.zero_add]
  rw [k.add_assoc, h, k.add_zero] at this
  exact this
theorem rep_inj (k : FK) {a b : k.α} (h : k.rep a = k.rep b) : a = b := by
  cases k with
  | rat =>
    have e : [D.int (a : Rat).num, D.int (a : Rat).den] = [D.int (b : Rat).num, D.int (b : Rat).den] := D.tup.inj h
    simp only [List.cons.injEq, D.int.injEq, and_true] at e
    exact Rat.ext e.1 (by omega)
  | mod p _ =>
    have e : ((a.val : Nat) : Int) = ((b.val : Nat) : Int) := D.int.inj h
    exact fin_ext (by omega)
/-- how great a number is: below 2 ^ n -/
def sz : (k : FK) → Nat → k.α → Prop
  | .rat, n, r => (r : Rat).num.natAbs < 2 ^ n ∧ (r : Rat).den < 2 ^ n
  | .mod _ _, _, _ => True
theorem sz_mono (k : FK) {n m : Nat} {a : k.α} (h : k.sz n a) (l : n ≤ m) : k.sz m a := by
  cases k with
  | rat => exact ⟨Nat.lt_of_lt_of_le h.1 (Nat.pow_le_pow_right (by decide) l), Nat.lt_of_lt_of_le h.2 (Nat.pow_le_pow_right (by decide) l)⟩
  | mod _ _ => trivial
theorem mk_num_le (n : Int) (d : Nat) : (mkRat n d).num.natAbs ≤ n.natAbs := by
  rw [Rat.num_mkRat]
  split
  · exact Nat.zero_le _
  · rw [Int.natAbs_ediv_of_dvd (Int.ofNat_dvd_left.mpr (Nat.gcd_dvd_right _ _))]
    exact Nat.div_le_self _ _
theorem mk_den_le (n : Int) (d : Nat) (h : 0 < d) : (mkRat n d).den ≤ d := by
  rw [Rat.den_mkRat]
  split
  · omega
  · exact Nat.div_le_self _ _
theorem nat_mul_lt {a b m n : Nat} (h1 : a < 2 ^ m) (h2 : b < 2 ^ n) : a * b < 2 ^ (m + n) := by
  rw [Nat.pow_add]
  exact Nat.mul_lt_mul'' h1 h2
theorem sz_add (k : FK) {m n : Nat} {a b : k.α} (ha : k.sz m a) (hb : k.sz n b) : k.sz (m + n + 1) (k.add a b) := by
  cases k with
  | rat =>
    have e : FK.rat.add a b = mkRat ((a : Rat).num * (b : Rat).den + (b : Rat).num * (a : Rat).den) ((a : Rat).den * (b : Rat).den) := Rat.add_def' a b
    show (FK.rat.add a b : Rat).num.natAbs < _ ∧ (FK.rat.add a b : Rat).den < _
    rw [e]
    have h1 := nat_mul_lt ha.1 hb.2
    have h2 := nat_mul_lt hb.1 ha.2
    have h3 := nat_mul_lt ha.2 hb.2
    rw [Nat.add_comm n m] at h2
    have h4 : 2 ^ (m + n + 1) = 2 ^ (m + n) + 2 ^ (m + n) := by rw [Nat.pow_succ]; omega
    refine ⟨Nat.lt_of_le_of_lt (mk_num_le _ _) ?_, Nat.lt_of_le_of_lt (mk_den_le _ _ (Nat.mul_pos (Rat.den_pos _) (Rat.den_pos _))) ?_⟩
    · have := Int.natAbs_add_le ((a : Rat).num * (b : Rat).den) ((b : Rat).num * (a : Rat).den)
      rw [Int.natAbs_mul, Int.natAbs_mul, Int.natAbs_natCast, Int.natAbs_natCast] at this
      omega
    · omega
  | mod _ _ => trivial
theorem sz_mul (k : FK) {m n : Nat} {a b : k.α} (ha : k.sz m a) (hb : k.sz n b) : k.sz (m + n) (k.mul a b) := by
  cases k with
  | rat =>
    have e : FK.rat.mul a b = mkRat ((a : Rat).num * (b : Rat).num) ((a : Rat).den * (b : Rat).den) := Rat.mul_def' a b
    show (FK.rat.mul a b : Rat).num.natAbs < _ ∧ (FK.rat.mul a b : Rat).den < _
    rw [e]
    refine ⟨Nat.lt_of_le_of_lt (mk_num_le _ _) ?_, Nat.lt_of_le_of_lt (mk_den_le _ _ (Nat.mul_pos (Rat.den_pos _) (Rat.den_pos _))) (nat_mul_lt ha.2 hb.2)⟩
    rw [Int.natAbs_mul]
    exact nat_mul_lt ha.1 hb.1
  | mod _ _ => trivial
theorem sz_neg (k : FK) {m : Nat} {a : k.α} (ha : k.sz m a) : k.sz m (k.neg a) := by
  cases k with
  | rat =>
    show (-(a : Rat)).num.natAbs < _ ∧ (-(a : Rat)).den < _
    rw [Rat.neg_num, Rat.neg_den, Int.natAbs_neg]
    exact ha
  | mod _ _ => trivial
theorem sz_inv (k : FK) {m : Nat} {a : k.α} (ha : k.sz m a) (h0 : 0 < m) : k.sz m (k.inv a) := by
  cases k with
  | rat =>
    show ((a : Rat)⁻¹).num.natAbs < _ ∧ ((a : Rat)⁻¹).den < _
    rw [Rat.num_inv, Rat.den_inv, Int.natAbs_mul, Int.natAbs_natCast]
    have h1 : 1 < 2 ^ m := Nat.one_lt_two_pow (Nat.pos_iff_ne_zero.mp h0)
    constructor
    · have : (a : Rat).num.sign.natAbs ≤ 1 := by
        rcases Int.lt_trichotomy (a : Rat).num 0 with h | h | h
        · rw [Int.sign_eq_neg_one_of_neg h]; decide
        · rw [h]; decide
        · rw [Int.sign_eq_one_of_pos h]; decide
      have := Nat.mul_le_mul_right (a : Rat).den this
      have := ha.2
      omega
    · split
      · exact h1
      · exact ha.1
  | mod _ _ => trivial
theorem sz_zero (k : FK) {m : Nat} (h0 : 0 < m) : k.sz m k.zero := by
  cases k with
  | rat => exact ⟨(show 0 < 2 ^ m from Nat.two_pow_pos m), Nat.one_lt_two_pow (Nat.pos_iff_ne_zero.mp h0)⟩
  | mod _ _ => trivial
theorem sz_one (k : FK) {m : Nat} (h0 : 0 < m) : k.sz m k.one := by
  cases k with
  | rat => exact ⟨Nat.one_lt_two_pow (Nat.pos_iff_ne_zero.mp h0), Nat.one_lt_two_pow (Nat.pos_iff_ne_zero.mp h0)⟩
  | mod _ _ => trivial
end FK
/-- the fraction of an integer by a number from 1 on -/
def fracD (r : Rat) : D := .tup [.int r.num, .int r.den]
end Z
namespace Z
open PySem PySem.Spec PyProof.Rows L2

/-- a def as the top leaves it -/
structure Raw (K : PySem.W.Frag) (mg : Str → Option Value) (x : Str) (st : Stmt) (ps : List Str) : Prop where
  ex : ∃ f fd, Fun K x x st f fd ∧ mg x = some (.ref f) ∧ Binds K fd ps []
theorem Raw.d {P : Program} {w : World} {K : PySem.W.Frag} {mg : Str → Option Value} {base : Heap} {k : Nat} {x : Str} {st : Stmt} {ps : List Str} {sp : Sp} (r : Raw K mg x st ps) (ok : ∀ f fd, Fun K x x st f fd → FnOk P w K mg base CX0 k f fd ps sp) : Def P w K mg base k x st ps sp := by
  obtain ⟨f, fd, h1, h2, h3⟩ := r.ex
  exact ⟨f, fd, ok f fd h1, h1, h2, h3⟩

section
variable {X : Cx} {F : Fm} {S S1 S2 : List Sl} {g g1 g2 g3 : DS} {a b c e tg : Expr} {es : List Expr} {x y z d : D} {ds : List D} {i j k : Int} {pos p p1 p2 p3 : Pos} {thn els rest : List Stmt} {o : Out}
theorem xb_ifT {b1 : Bool} (hc : XT X F S g c g1 b1) (h : XB X F S g1 thn o) (h1 : b1 = true := by rfl) (hs : o.stops := by exact True.intro) : XB X F S g (.If c thn els pos :: rest) o := xb_stop (xs_ifT hc h h1) hs
theorem xb_ifF {b1 : Bool} (hc : XT X F S g c g1 b1) (h : XB X F S g1 rest o) (h1 : b1 = false := by rfl) : XB X F S g (.If c thn [] pos :: rest) o := xb_cons (xs_ifF hc xb_nil h1) h
/-- a < b < c -/
theorem xe_chainII {op op' : CmpOp} {f f' : Int → Int → Bool} (ho : OpR X (compareOp op) (rI0 fun i j => .bl (f i j))) (ho' : OpR X (compareOp op') (rI0 fun i j => .bl (f' i j))) (ha : XE X F S g a g (.int i)) (hb : XE X F S g b g (.int j)) (hc : XE X F S g c g (.int k))
    (h1 : lastMarks [op, op'] [b, c] = false) : XE X F S g (.Compare a [op, op'] [b, c] pos) g (.bl (f i j && f' j k)) :=
  pe_mono (pe_chain ho ho' ha hb hc h1) fun σ H Q ⟨Hs, A, ok, q⟩ => ⟨Hs, A, ok, fun u Hs1 H1 e1 ok1 r1 => ⟨Hs1, A, ok1, fun v Hs2 H2 e2 ok2 r2 => by
    cases r1; cases r2
    refine ⟨i, j, rfl, rfl, f i j, rfl, ?_⟩
    cases hf : f i j with
    | true =>
      refine iteT ⟨Hs2, A, ok2, fun w Hs3 H3 e3 ok3 r3 => ?_⟩
      cases r3
      rw [hf] at q
      exact ⟨j, k, rfl, rfl, q _ Hs3 H3 ((e1.trans e2).trans e3) ok3 (.bl _)⟩
    | false =>
      rw [hf] at q
      exact iteF (q _ Hs2 H2 (e1.trans e2) ok2 (.bl _))⟩⟩
theorem xe_ltlt (ha : XE X F S g a g (.int i)) (hb : XE X F S g b g (.int j)) (hc : XE X F S g c g (.int k)) (hm : lastMarks [.Lt, .Lt] [b, c] = false := by with_unfolding_all rfl) : XE X F S g (.Compare a [.Lt, .Lt] [b, c] pos) g (.bl (decide (i < j) && decide (j < k))) := xe_chainII op_lt op_lt ha hb hc hm
theorem xe_lele (ha : XE X F S g a g (.int i)) (hb : XE X F S g b g (.int j)) (hc : XE X F S g c g (.int k)) (hm : lastMarks [.LtE, .LtE] [b, c] = false := by with_unfolding_all rfl) : XE X F S g (.Compare a [.LtE, .LtE] [b, c] pos) g (.bl (decide (i ≤ j) && decide (j ≤ k))) := xe_chainII op_le op_le ha hb hc hm
theorem xe_lelt (ha : XE X F S g a g (.int i)) (hb : XE X F S g b g (.int j)) (hc : XE X F S g c g (.int k)) (hm : lastMarks [.LtE, .Lt] [b, c] = false := by with_unfolding_all rfl) : XE X F S g (.Compare a [.LtE, .Lt] [b, c] pos) g (.bl (decide (i ≤ j) && decide (j < k))) := xe_chainII op_le op_lt ha hb hc hm
/-- // by a small number that may be below 0 -/
theorem xe_divN (ha : XE X F S g a g1 (.int i)) (hb : XE X F S g1 b g2 (.int j)) (hc : CDivN i j) : XE X F S g (.BinOp a .FloorDiv b pos) g2 (.int (i.fdiv j)) := xe_opI op_fdivN ha hb hc
/-- x op= e, two ints under C -/
theorem xs_augC (n : Nat) {op : Operator} {C : Int → Int → Prop} {f : Int → Int → Int} {x : Str} {px : Pos} (ho : OpR X (inplaceOp op) (rI C fun i j => .int (f i j))) (h0 : S[n]? = some (.v (.int i))) (h : XE X F S g e g1 (.int j)) (hC : C i j) (hN : X.N.Nodup) (hi : X.N[n]? = some x := by rfl) (hx : Loc X.env.scope x := by first | exact Or.inl rfl | exact Or.inr rfl)
    (hf : X.fn x = true ∨ X.env.scope.names.lookup x = some .local := by first | exact .inl rfl | exact .inr rfl) : XS X F S g (.AugAssign (.Name x px) op e pos) (.nx (S.set n (.v (.int (f i j)))) g1) :=
  ⟨fun pins s σ H D I ⟨Hs, A, ok, k⟩ => by
    obtain ⟨v, h1, h2⟩ := ok.val n _ h0
    cases h2
    refine (ps_aug (pos := pos) (pos' := px) (ti := rI C fun i j => .int (f i j)) hN hi hx h ho hf).run pins s σ H D I ⟨_, h1, Hs, A, ok, fun v Hs1 H1 e1 ok1 r1 => ?_⟩
    cases r1
    exact ⟨i, j, rfl, rfl, hC, k Hs1 A H1 _ e1 (ok1.setv (by rw [I.len]; exact (List.getElem?_eq_some_iff.mp hi).1) (.int _))⟩⟩
theorem ne_t {i j : Int} (h : i ≠ j) : (!decide (i = j)) = true := by rw [decide_eq_false h]; rfl
theorem eq_f {i j : Int} (h : i ≠ j) : decide (i = j) = false := decide_eq_false h
/-- a, b, .. = a list -/
theorem xg_lst {n k : Nat} (h : XGs X F S es ds S1) (hl : ds.length = n := by rfl) (hc : X.calm = true := by rfl) (hn : (assignEach es X.env).length = n := by rfl) (hst : (assignEach es X.env).findIdx? (·.1) = none := by rfl) : XG X F S (.Tuple es k pos) (.lst ds) S1 :=
  pg_mono (pg_unl hc h hn hst) fun v σ H Q ⟨Hs, A, g, ok, rv, k⟩ => by
    cases rv with
    | lst q r => exact ⟨_, _, rfl, .inl (.inl (ok.ex _ _ q)), by rw [r.len]; exact hl, Hs, A, g, ok, r, k⟩
/-- [..][::-1] -/
theorem xn_rev (ha : XE X F S g a g1 (.lst ds)) {j : Nat} : XN X F S g (.Subscript a (.Slice none none (some (.UnaryOp .USub (.Constant (.int 1) j p1) p2)) p3) pos) g1 ds.reverse :=
  pe_mono (pe_revL ha) fun σ H Q ⟨Hs, A, ok, k⟩ => ⟨Hs, A, ok, fun v Hs1 H1 e1 ok1 r1 => by
    cases r1 with
    | lst q r => exact ⟨_, _, rfl, .inl (.inl (ok1.ex _ _ q)), fun p hp => k p _ Hs1 _ e1 (ok1.grow hp) (ok1.toFin.freeS hp) (ok1.toFin.free hp) upd_same (ok1.toFin.neDeal hp) (ok1.ownNe hp) r.reverse⟩⟩
/-- script[:n] of the whole script -/
theorem xn_script (i : Nat) {s : Addr} {ns : List Int} {nm : Str} {n : Int} {j : Nat} (h0 : S[i]? = some (.raw (.ref s))) (hs : SqL X.K F.H0 s (ns.map V.int)) (hd : F.dl = false) (hl : (ns.length : Int) ≤ n) (hN : X.N[i]? = some nm := by rfl) (hv : Vis X.env.scope nm := by first | exact Or.inl rfl | exact Or.inr (Or.inl rfl) | exact Or.inr (Or.inr rfl))
    (hd1 : (nm == ("__debug__" : Str)) = false := by decide) (hd2 : (nm == ("__classdict__" : Str)) = false := by decide) : XN X F S g (.Subscript (.Name nm p1) (.Slice none (some (.Constant (.int n) j p2)) none p3) pos) g (ns.map D.int) :=
  pe_mono (pe_slice sl_list (pe_var hN hv hd1 hd2) po_none (po_some pe_int)) fun σ H Q ⟨Hs, A, ok, k⟩ => by
    have hS : SqL X.K H s (ns.map V.int) := (show Same F.H0 H from fun b o h => ok.base b o (fun z => by rw [hd] at z; cases z) h).seq hs
    have e : cutV (ns.map V.int) none (some n) = ns.map V.int := by
      obtain ⟨m, rfl⟩ := Int.eq_ofNat_of_zero_le (show 0 ≤ n by omega)
      unfold cutV
      rw [HT.sIx_none, List.drop_zero, show HT.sIx (ns.map V.int).length (ns.map V.int).length (some (m : Int)) = min m (ns.map V.int).length from HT.sIx_nat _ _ _, List.length_map, Nat.min_eq_right (by omega), Nat.sub_zero, List.take_of_length_le (by rw [List.length_map]; exact Nat.le_refl _)]
    refine ⟨_, ok.raw i _ h0, n, rfl, s, _, rfl, hS, fun p hp => ?_⟩
    rw [e]
    exact k p _ Hs _ (Same.refl _) (ok.grow hp) (ok.toFin.freeS hp) (ok.toFin.free hp) upd_same (ok.toFin.neDeal hp) (ok.ownNe hp) (ints_rps ns)
/-- return [a new list of numbers, a number]: new draws -/
theorem xs_retDeal {ns : List Int} {m : Int} (hd : F.dl = false) (ha : XN X F S g a g1 (ns.map D.int)) (hb : XE X F S g1 b g2 (.int m)) (h1 : starEach [a, b] X.env = (false, eval a X.env) :: starEach [b] X.env := by rfl) (h2 : starEach [b] X.env = (false, eval b X.env) :: starEach [] X.env := by rfl) :
    XS X F S g (.Return (some (.List [a, b] p1)) pos) (.rd (ns, m)) :=
  ps_mono (ps_ret (pe_lst (pa_cons ha (pa_cons hb pa_nil h2) h1))) fun D σ H ⟨Hs, A, ok, k⟩ => ⟨Hs, A, ok, fun c vs Hs1 H1 e1 ok1 hc1 hc0 hcl hcd hco r1 => by
    -- the list at c is known while the number is reckoned
    have okc := ok1.learn hc1 hc0 hcl hcd hco
    refine ⟨_, A, okc, fun v Hs2 H2 e2 ok2 r2 => ?_⟩
    cases r2
    refine ⟨by show 2 ≤ sizeLine; decide, fun p hp => ?_⟩
    have h2c : H2 c = some (.lst vs) := ok2.ex _ _ (e2 _ _ upd_same)
    have np : c ≠ p := ne_of_none h2c hp
    refine k p c _ np.symm (ok2.toFin.free hp) hc0 (fun b o h => ?_) ⟨upd_same, ?_⟩
    · have := ok2.base b o (fun z => by rw [hd] at z; cases z) h
      rw [upd_ne (ne_of_none this hp)]; exact this
    · rw [upd_ne np, h2c, rps_ints r1]⟩
/-! f-strings -/
theorem xe_fmtI (ha : XE X F S g a g1 (.int i)) (hl : i.natAbs.log2 < 1920) : XE X F S g (.FormattedValue a (-1) none pos) g1 (.str (toString i)) :=
  pe_mono (pe_fmt ha) fun σ H Q ⟨Hs, A, ok, q⟩ => ⟨Hs, A, ok, fun u Hs1 H1 e1 ok1 r1 => by
    cases r1
    exact .inr ⟨i, rfl, hl, q _ Hs1 H1 e1 ok1 (.str _)⟩⟩
theorem xe_fmtS {s : Str} (ha : XE X F S g a g1 (.str s)) (hl : s.length ≤ sizeLine) : XE X F S g (.FormattedValue a (-1) none pos) g1 (.str s) :=
  pe_mono (pe_fmt ha) fun σ H Q ⟨Hs, A, ok, q⟩ => ⟨Hs, A, ok, fun u Hs1 H1 e1 ok1 r1 => by
    cases r1
    exact .inl ⟨s, rfl, hl, q _ Hs1 H1 e1 ok1 (.str _)⟩⟩
theorem str_len_app' (a b : Str) : (a ++ b).length = a.length + b.length := Array.size_append
theorem str_empty_app' (a : Str) : Str.empty ++ a = a := by
  show Str.mk (#[] ++ a.cps) = a
  rw [Array.empty_append]
/-- an f-string of three parts -/
theorem xe_join3 {s1 s2 s3 : Str} {v1 v2 v3 : Expr} (h1 : XE X F S g v1 g1 (.str s1)) (h2 : XE X F S g1 v2 g2 (.str s2)) (h3 : XE X F S g2 v3 g3 (.str s3)) (hl : s1.length + s2.length + s3.length ≤ sizeLine) : XE X F S g (.JoinedStr [v1, v2, v3] pos) g3 (.str (s1 ++ s2 ++ s3)) :=
  pe_mono (pe_joined (.cons h1 (.cons h2 (.cons h3 .nil)))) fun σ H Q ⟨Hs, A, ok, q⟩ => ⟨Hs, A, ok, fun u Hs1 H1 e1 ok1 r1 => by
    cases r1
    refine ⟨s1, rfl, by rw [str_empty_app']; omega, Hs1, A, ok1, fun v Hs2 H2 e2 ok2 r2 => ?_⟩
    cases r2
    refine ⟨s2, rfl, by rw [str_empty_app', str_len_app']; omega, Hs2, A, ok2, fun w Hs3 H3 e3 ok3 r3 => ?_⟩
    cases r3
    refine ⟨s3, rfl, by rw [str_empty_app', str_len_app', str_len_app']; omega, ?_⟩
    rw [str_empty_app']
    exact q _ Hs3 H3 ((e1.trans e2).trans e3) ok3 (.str _)⟩
/-! == of data -/
def D.py : D → PyData
  | .non => .none | .bl b => .bool b | .int i => .int i | .str s => .str s
  | .tup ds => .tuple (pys ds)
  | .lst ds => .list (pys ds)
where pys : List D → List PyData
  | [] => []
  | d :: ds => d.py :: pys ds
mutual
theorem Rp.dp {K : PySem.W.Frag} {H : Hp} : ∀ {v : V} {d : D}, Rp K H v d → Dp K H v d.py
  | _, _, .non => by unfold D.py; exact .non
  | _, _, .bl b => by unfold D.py; exact .bl b
  | _, _, .int i => by unfold D.py; exact .int i
  | _, _, .str x => by unfold D.py; exact .str x
  | _, _, .tup h r => by unfold D.py; exact .tup h (Rps.dp r)
  | _, _, .lst h r => by unfold D.py; exact .lst (.inl (.inl h)) (Rps.dp r)
theorem Rps.dp {K : PySem.W.Frag} {H : Hp} : ∀ {vs : List V} {ds : List D}, Rps K H vs ds → DpAll K H vs (D.py.pys ds)
  | _, _, .nil => by unfold D.py.pys; exact .nil
  | _, _, .cons r t => by unfold D.py.pys; exact .cons (Rp.dp r) (Rps.dp t)
end
theorem cEqD {A : Nat → Addr} {σ : L2.St} {Hs H : Hp} {u v : V} {Q : VK} (ok : Ok X.K F Hs A H σ S g) (ru : Rp X.K Hs u x) (rv : Rp X.K Hs v y) (sx : SeqAt.shaped x.py = true) (sy : SeqAt.shaped y.py = true) (q : Q (.bl (PyData.eqv x.py y.py)) H) : rEqD X.K u v H Q :=
  ⟨_, _, (ru.mono ok.ex).dp, (rv.mono ok.ex).dp, sx, sy, q⟩
theorem cNeD {A : Nat → Addr} {σ : L2.St} {Hs H : Hp} {u v : V} {Q : VK} (ok : Ok X.K F Hs A H σ S g) (ru : Rp X.K Hs u x) (rv : Rp X.K Hs v y) (sx : SeqAt.shaped x.py = true) (sy : SeqAt.shaped y.py = true) (q : Q (.bl (!PyData.eqv x.py y.py)) H) : rNeD X.K u v H Q :=
  ⟨_, _, (ru.mono ok.ex).dp, (rv.mono ok.ex).dp, sx, sy, q⟩
theorem xe_eqD {n : Nat} (hr : Room n X.A) (ha : XE X F S g a g1 x) (hb : XE X F S g1 b g2 y) (sx : SeqAt.shaped x.py = true) (sy : SeqAt.shaped y.py = true) : XE X F S g (.Compare a [.Eq] [b] pos) g2 (.bl (PyData.eqv x.py y.py)) := xe_cmp (op_eqD hr.units) (nomark _) ha hb fun _ _ _ _ _ _ _ ok ru rv q => cEqD ok ru rv sx sy q
theorem xt_eqD {n : Nat} (hr : Room n X.A) (ha : XE X F S g a g1 x) (hb : XE X F S g1 b g2 y) (sx : SeqAt.shaped x.py = true) (sy : SeqAt.shaped y.py = true) : XT X F S g (.Compare a [.Eq] [b] pos) g2 (PyData.eqv x.py y.py) := xt_cmp (op_eqD hr.units) (nomark _) ha hb fun _ _ _ _ _ _ _ ok ru rv q => cEqD ok ru rv sx sy q
theorem xe_neD {n : Nat} (hr : Room n X.A) (ha : XE X F S g a g1 x) (hb : XE X F S g1 b g2 y) (sx : SeqAt.shaped x.py = true) (sy : SeqAt.shaped y.py = true) : XE X F S g (.Compare a [.NotEq] [b] pos) g2 (.bl (!PyData.eqv x.py y.py)) := xe_cmp (op_neD hr.units) (nomark _) ha hb fun _ _ _ _ _ _ _ ok ru rv q => cNeD ok ru rv sx sy q
theorem xt_neD {n : Nat} (hr : Room n X.A) (ha : XE X F S g a g1 x) (hb : XE X F S g1 b g2 y) (sx : SeqAt.shaped x.py = true) (sy : SeqAt.shaped y.py = true) : XT X F S g (.Compare a [.NotEq] [b] pos) g2 (!PyData.eqv x.py y.py) := xt_cmp (op_neD hr.units) (nomark _) ha hb fun _ _ _ _ _ _ _ ok ru rv q => cNeD ok ru rv sx sy q
/-! in: flat data -/
def flatD : D → Bool | .tup _ => false | .lst _ => false | _ => true
def eqF : D → D → Bool
  | .non, .non => true
  | .bl a, .bl b => a == b
  | .bl a, .int j => (if a then 1 else 0) == j
  | .int i, .bl b => i == (if b then 1 else 0)
  | .int i, .int j => i == j
  | .str a, .str b => a == b
  | _, _ => false
theorem eqF_v {Hs : Hp} {u v : V} (r : Rp X.K Hs u x) (q : Rp X.K Hs v y) (h : flatD y = true) : eqV v u = eqF y x ∧ flatV v = true := by
  cases q with
  | tup _ _ => cases h
  | lst _ _ => cases h
  | _ => cases r <;> exact ⟨rfl, rfl⟩
theorem inF_v {Hs : Hp} {u : V} (r : Rp X.K Hs u x) : ∀ {vs : List V} {ds : List D}, Rps X.K Hs vs ds → ds.all flatD = true → inV u vs = ds.any (fun y => eqF y x) ∧ vs.all flatV = true
  | _, _, .nil, _ => ⟨rfl, rfl⟩
  | _, _, .cons q t, h => by
    rw [List.all_cons, Bool.and_eq_true] at h
    obtain ⟨h1, h2⟩ := eqF_v r q h.1
    obtain ⟨h3, h4⟩ := inF_v r t h.2
    have h3' : (_ : List V).any (fun y => eqV y u) = _ := h3
    exact ⟨by unfold inV; rw [List.any_cons, List.any_cons, h1, h3'], by rw [List.all_cons, h2, h4]; rfl⟩
def itemsD : D → Option (List D) | .tup ds => some ds | .lst ds => some ds | _ => none
theorem xe_in (ha : XE X F S g a g1 x) (hb : XE X F S g1 b g2 y) (hy : itemsD y = some ds) (hx : flatD x = true) (hf : ds.all flatD = true) (hm : behindInMarks .In b = false := by rfl) : XE X F S g (.Compare a [.In] [b] pos) g2 (.bl (ds.any fun z => eqF z x)) :=
  xe_cmp op_in_seq hm ha hb fun A σ Hs H u v Q ok ru rv q => by
    have fu : flatV u = true := (eqF_v (y := x) (x := x) ru ru hx).2
    cases rv with
    | tup h r =>
      cases hy
      obtain ⟨h1, h2⟩ := inF_v ru r hf
      exact ⟨_, _, rfl, .inr (sqt_mono ok.ex h), fu, h2, by rw [h1]; exact q⟩
    | lst h r =>
      cases hy
      obtain ⟨h1, h2⟩ := inF_v ru r hf
      exact ⟨_, _, rfl, .inl (.inl (.inl (ok.ex _ _ h))), fu, h2, by rw [h1]; exact q⟩
    | _ => cases hy
theorem xt_in (ha : XE X F S g a g1 x) (hb : XE X F S g1 b g2 y) (hy : itemsD y = some ds) (hx : flatD x = true) (hf : ds.all flatD = true) (hm : behindInMarks .In b = false := by rfl) : XT X F S g (.Compare a [.In] [b] pos) g2 (ds.any fun z => eqF z x) :=
  xt_cmp op_in_seq hm ha hb fun A σ Hs H u v Q ok ru rv q => by
    have fu : flatV u = true := (eqF_v (y := x) (x := x) ru ru hx).2
    cases rv with
    | tup h r =>
      cases hy
      obtain ⟨h1, h2⟩ := inF_v ru r hf
      exact ⟨_, _, rfl, .inr (sqt_mono ok.ex h), fu, h2, by rw [h1]; exact q⟩
    | lst h r =>
      cases hy
      obtain ⟨h1, h2⟩ := inF_v ru r hf
      exact ⟨_, _, rfl, .inl (.inl (.inl (ok.ex _ _ h))), fu, h2, by rw [h1]; exact q⟩
    | _ => cases hy
/-! append, pop -/
theorem xs_app (n : Nat) {nm : Str} {px pa pc : Pos} (h0 : S[n]? = some (.own ds)) (h : XE X F S g e g1 d) (hl : ds.length < sizeLine) (hi : n < X.N.length := by first | decide | exact Nat.le_of_ble_eq_true rfl) (hN : X.N[n]? = some nm := by rfl) (hv : Vis X.env.scope nm := by first | exact Or.inl rfl | exact Or.inr (Or.inl rfl) | exact Or.inr (Or.inr rfl))
    (hd : (nm == ("__debug__" : Str)) = false := by decide) (hcd : (nm == ("__classdict__" : Str)) = false := by decide)
    (hs : swapsWith (.Call (.Attribute (.Name nm px) "append" pa) [e] [] pc) none pos.line X.env = pure false := by rfl) (hst : starEach (e :: []) X.env = (false, eval e X.env) :: starEach [] X.env := by rfl)
    (hbase : attributeBase (.Name nm px) "append" X.env (eval (.Name nm px) X.env) = eval (.Name nm px) X.env := by rfl)
    (hfew : ((backTo pc (starEach (e :: []) X.env)).all (fun x => !x.1) && (backToKw pc (keywordEach [] X.env)).all (fun x => x.1.isSome)
      && decide ((e :: []).length + ([] : List Keyword).length + (if ([] : List Keyword).isEmpty then 0 else 1) < 30)) = true := by rfl)
    (hline : (pa.endLine == pc.line) = true := by rfl) (hplain : (backTo pc (starEach [] X.env)).any (·.1) = false := by rfl) :
    XS X F S g (.Expr (.Call (.Attribute (.Name nm px) "append" pa) [e] [] pc) pos) (.nx (S.set n (.own (ds ++ [d]))) g1) :=
  ⟨fun pins s σ H En I ⟨Hs, A, ok, k⟩ => by
    refine (ps_expr (pos := pos) (pe_bm PySem.F.plainAttrs_list PySem.F.slot_list_append PySem.F.type_list_append mt_append (pe_var hN hv hd hcd) (pa_cons h pa_nil hst) hbase hfew hline hst hplain) hs).run pins s σ H En I ?_
    obtain ⟨h1, _, _, ⟨vs0, h40, _⟩, _⟩ := ok.own n ds h0
    refine ⟨_, h1 (by rw [I.len]; exact hi), .inl ⟨rfl, _, SqL.of h40⟩, Hs, A, ok, fun v Hs1 H1 e1 ok1 r1 => ?_⟩
    obtain ⟨_, _, _, ⟨vs, h4, h5⟩, _⟩ := ok1.own n ds h0
    exact ⟨_, _, _, rfl, rfl, h4, by rw [h5.len]; exact hl, k Hs1 A _ σ e1 (ok1.mut h0 (h5.append (.cons r1 .nil)))⟩⟩
theorem last_get {vs : List V} {ds : List D} {Hs : Hp} (r : Rps X.K Hs vs (ds ++ [d])) : ∃ v, vs[vs.length - 1]? = some v ∧ Rp X.K Hs v d ∧ Rps X.K Hs vs.dropLast ds := by
  have hl := r.len
  rw [List.length_append, List.length_singleton] at hl
  have h : (ds ++ [d])[vs.length - 1]? = some d := by
    rw [hl, Nat.add_sub_cancel, List.getElem?_append_right (Nat.le_refl _), Nat.sub_self]
    rfl
  obtain ⟨v, h1, h2⟩ := r.get h
  refine ⟨v, h1, h2, ?_⟩
  have := r.dropLast
  rw [List.dropLast_concat] at this
  exact this
/-- target = xs.pop() -/
theorem xs_pop (n : Nat) {nm : Str} {px pa pc : Pos} (h0 : S[n]? = some (.own (ds ++ [d]))) (ht : XG X F (S.set n (.own ds)) tg d S1) (hi : n < X.N.length := by first | decide | exact Nat.le_of_ble_eq_true rfl) (hN : X.N[n]? = some nm := by rfl) (hv : Vis X.env.scope nm := by first | exact Or.inl rfl | exact Or.inr (Or.inl rfl) | exact Or.inr (Or.inr rfl))
    (hd : (nm == ("__debug__" : Str)) = false := by decide) (hcd : (nm == ("__classdict__" : Str)) = false := by decide)
    (hs : swapsWithSole [tg] (.Call (.Attribute (.Name nm px) "pop" pa) [] [] pc) pos.line X.env = pure false := by rfl) (hw : swappedStores [tg] (.Call (.Attribute (.Name nm px) "pop" pa) [] [] pc) X.env = pure none := by rfl) (h1 : (assignEach [tg] X.env).map (·.2) = [assign tg X.env] := by rfl)
    (hbase : attributeBase (.Name nm px) "pop" X.env (eval (.Name nm px) X.env) = eval (.Name nm px) X.env := by rfl) (hline : (pa.endLine == pc.line) = true := by rfl) :
    XS X F S g (.Assign [tg] (.Call (.Attribute (.Name nm px) "pop" pa) [] [] pc) pos) (.nx S1 g) :=
  ⟨fun pins s σ H En I ⟨Hs, A, ok, k⟩ => by
    refine (ps_asg (pos := pos) (pe_bm0 PySem.F.plainAttrs_list PySem.F.slot_list_pop PySem.F.type_list_pop mt_pop (pe_var hN hv hd hcd) hbase hline) ht hs hw h1).run pins s σ H En I ?_
    obtain ⟨h1, _, _, ⟨vs, h4, h5⟩, _⟩ := ok.own n _ h0
    obtain ⟨v, g1, g2, g3⟩ := last_get h5
    refine ⟨_, h1 (by rw [I.len]; exact hi), .inl ⟨rfl, _, SqL.of h4⟩, _, _, _, rfl, rfl, h4, g1, Hs, A, g, ok.mut h0 g3, g2, fun A2 σ2 ok2 => k Hs A2 _ σ2 (Same.refl _) ok2⟩⟩
end
end Z
namespace Z
open PySem PySem.Spec PyProof.Rows L2

/-! isinstance, class by class -/
def isiInt : D → Bool | .int _ => true | .bl _ => true | _ => false
def isiBool : D → Bool | .bl _ => true | _ => false
def isiStr : D → Bool | .str _ => true | _ => false
def isiTup : D → Bool | .tup _ => true | _ => false
def isiLst : D → Bool | .lst _ => true | _ => false
def isiDict : D → Bool | _ => false
theorem kit_int : ∀ x : D, kitB (tyD x) "int" = some (isiInt x)
  | .non => (by decide +kernel : kitB "NoneType" "int" = some false) | .bl _ => (by decide +kernel : kitB "bool" "int" = some true) | .int _ => (by decide +kernel : kitB "int" "int" = some true)
  | .str _ => (by decide +kernel : kitB "str" "int" = some false) | .tup _ => (by decide +kernel : kitB "tuple" "int" = some false) | .lst _ => (by decide +kernel : kitB "list" "int" = some false)
theorem kit_bool : ∀ x : D, kitB (tyD x) "bool" = some (isiBool x)
  | .non => (by decide +kernel : kitB "NoneType" "bool" = some false) | .bl _ => (by decide +kernel : kitB "bool" "bool" = some true) | .int _ => (by decide +kernel : kitB "int" "bool" = some false)
  | .str _ => (by decide +kernel : kitB "str" "bool" = some false) | .tup _ => (by decide +kernel : kitB "tuple" "bool" = some false) | .lst _ => (by decide +kernel : kitB "list" "bool" = some false)
theorem kit_str : ∀ x : D, kitB (tyD x) "str" = some (isiStr x)
  | .non => (by decide +kernel : kitB "NoneType" "str" = some false) | .bl _ => (by decide +kernel : kitB "bool" "str" = some false) | .int _ => (by decide +kernel : kitB "int" "str" = some false)
  | .str _ => (by decide +kernel : kitB "str" "str" = some true) | .tup _ => (by decide +kernel : kitB "tuple" "str" = some false) | .lst _ => (by decide +kernel : kitB "list" "str" = some false)
theorem kit_tuple : ∀ x : D, kitB (tyD x) "tuple" = some (isiTup x)
  | .non => (by decide +kernel : kitB "NoneType" "tuple" = some false) | .bl _ => (by decide +kernel : kitB "bool" "tuple" = some false) | .int _ => (by decide +kernel : kitB "int" "tuple" = some false)
  | .str _ => (by decide +kernel : kitB "str" "tuple" = some false) | .tup _ => (by decide +kernel : kitB "tuple" "tuple" = some true) | .lst _ => (by decide +kernel : kitB "list" "tuple" = some false)
theorem kit_list : ∀ x : D, kitB (tyD x) "list" = some (isiLst x)
  | .non => (by decide +kernel : kitB "NoneType" "list" = some false) | .bl _ => (by decide +kernel : kitB "bool" "list" = some false) | .int _ => (by decide +kernel : kitB "int" "list" = some false)
  | .str _ => (by decide +kernel : kitB "str" "list" = some false) | .tup _ => (by decide +kernel : kitB "tuple" "list" = some false) | .lst _ => (by decide +kernel : kitB "list" "list" = some true)
theorem kit_dict : ∀ x : D, kitB (tyD x) "dict" = some (isiDict x)
  | .non => (by decide +kernel : kitB "NoneType" "dict" = some false) | .bl _ => (by decide +kernel : kitB "bool" "dict" = some false) | .int _ => (by decide +kernel : kitB "int" "dict" = some false)
  | .str _ => (by decide +kernel : kitB "str" "dict" = some false) | .tup _ => (by decide +kernel : kitB "tuple" "dict" = some false) | .lst _ => (by decide +kernel : kitB "list" "dict" = some false)

section
variable {X : Cx} {F : Fm} {S S1 S2 : List Sl} {g g1 g2 g3 : DS} {a b c e tg iter : Expr} {es : List Expr} {x y z d : D} {ds : List D} {i j k : Int} {pos p p1 p2 p3 : Pos} {thn els rest body : List Stmt} {o : Out}

/-! ### loops by invariants -/
/-- how the body of a loop may end: to the next turn (Inv), by a break (then rest), by a return -/
inductive Turn (X : Cx) (F : Fm) (body rest : List Stmt) (o : Out) (Inv : List Sl → DS → Prop) (S : List Sl) (g : DS) : Prop
  | next {S' : List Sl} {g' : DS} (h : XB X F S g body (.nx S' g')) (i : Inv S' g') : Turn X F body rest o Inv S g
  | cont {S' : List Sl} {g' : DS} (h : XB X F S g body (.ct S' g')) (i : Inv S' g') : Turn X F body rest o Inv S g
  | brk {S' : List Sl} {g' : DS} (h : XB X F S g body (.bk S' g')) (r : XB X F S' g' rest o) : Turn X F body rest o Inv S g
  | ret (h : XB X F S g body o) (st : ∃ d g', o = .rt d g') : Turn X F body rest o Inv S g
inductive WTurn (X : Cx) (F : Fm) (c : Expr) (body rest : List Stmt) (o : Out) (Inv : List Sl → DS → Prop) (S : List Sl) (g : DS) : Prop
  | stop {g1 : DS} {b1 : Bool} (h : XT X F S g c g1 b1) (r : XB X F S g1 rest o) (h1 : b1 = false := by rfl) : WTurn X F c body rest o Inv S g
  | go {g1 : DS} {b1 : Bool} (h : XT X F S g c g1 b1) (t : Turn X F body rest o Inv S g1) (h1 : b1 = true := by rfl) : WTurn X F c body rest o Inv S g
/-- while c: body, then rest: an invariant with a measure -/
theorem xb_while (Inv : Nat → List Sl → DS → Prop) (m : Nat) (h0 : Inv m S g) (hs : ∀ m S g, Inv m S g → WTurn X F c body rest o (fun S' g' => ∃ m', m' < m ∧ Inv m' S' g') S g) (hp : PassesOwn (model X.prog X.w) X.A X.env X.xe := by exact PassesOwn.never) : XB X F S g (.While c body [] pos :: rest) o := by
  have key : ∀ m S g, Inv m S g → ∃ n o1, Wh X F c body n S g o1 ∧ ((∃ S' g', o1 = .nx S' g' ∧ XB X F S' g' rest o) ∨ (o1 = o ∧ ∃ d g', o = .rt d g')) := by
    intro m
    induction m using Nat.strongRecOn with
    | ind m ih =>
      intro S g hI
      cases hs m S g hI with
      | stop h r h1 => subst h1; exact ⟨0, _, .stop h, .inl ⟨_, _, rfl, r⟩⟩
      | go h t h1 =>
        subst h1
        cases t with
        | next hb hi =>
          obtain ⟨m', lt, hi⟩ := hi
          obtain ⟨n, o1, w, q⟩ := ih m' lt _ _ hi
          exact ⟨n + 1, o1, .next h hb w, q⟩
        | cont hb hi =>
          obtain ⟨m', lt, hi⟩ := hi
          obtain ⟨n, o1, w, q⟩ := ih m' lt _ _ hi
          exact ⟨n + 1, o1, .cont h hb w, q⟩
        | brk hb r => exact ⟨0, _, .brk h hb, .inl ⟨_, _, rfl, r⟩⟩
        | ret hb st =>
          obtain ⟨d, g', rfl⟩ := st
          exact ⟨0, _, .ret h hb, .inr ⟨rfl, d, g', rfl⟩⟩
  obtain ⟨n, o1, w, q⟩ := key m S g h0
  rcases q with ⟨S', g', rfl, r⟩ | ⟨rfl, d, g', rfl⟩
  · exact xb_cons (xs_while w hp) r
  · exact xb_stop (xs_while w hp)
theorem fr_ind {step : D → List Sl → DS → Out → Prop} (Inv : Nat → List Sl → DS → Prop) (Q : List Sl → DS → Prop) (ds : List D) (h0 : Inv 0 S g)
    (hs : ∀ (i : Nat) (x : D) S g, ds[i]? = some x → Inv i S g → (∃ S' g', (step x S g (.nx S' g') ∨ step x S g (.ct S' g')) ∧ Inv (i + 1) S' g') ∨ (∃ S' g', step x S g (.bk S' g') ∧ Q S' g') ∨ (step x S g o ∧ ∃ d g', o = .rt d g')) (he : ∀ S g, Inv ds.length S g → Q S g) :
    ∃ o1, Fr step ds S g o1 ∧ ((∃ S' g', o1 = .nx S' g' ∧ Q S' g') ∨ (o1 = o ∧ ∃ d g', o = .rt d g')) := by
  have key : ∀ (r : List D) (i : Nat) S g, ds.drop i = r → i + r.length = ds.length → Inv i S g → ∃ o1, Fr step r S g o1 ∧ ((∃ S' g', o1 = .nx S' g' ∧ Q S' g') ∨ (o1 = o ∧ ∃ d g', o = .rt d g')) := by
    intro r
    induction r with
    | nil =>
      intro i S g _ hl hI
      have : i = ds.length := by simpa using hl
      subst this
      exact ⟨_, .nil, .inl ⟨_, _, rfl, he _ _ hI⟩⟩
    | cons x r ih =>
      intro i S g hd hl hI
      have hx : ds[i]? = some x := by
        have := congrArg (fun l => l[0]?) hd
        simpa using this
      have hd' : ds.drop (i + 1) = r := by
        rw [← List.drop_drop, hd]
        rfl
      have hl' : i + 1 + r.length = ds.length := by rw [List.length_cons] at hl; omega
      rcases hs i x S g hx hI with ⟨S', g', h, hI'⟩ | ⟨S', g', h, q⟩ | ⟨h, d, g', ho⟩
      · obtain ⟨o1, f, q⟩ := ih (i + 1) S' g' hd' hl' hI'
        rcases h with h | h
        · exact ⟨o1, .next h f, q⟩
        · exact ⟨o1, .cont h f, q⟩
      · exact ⟨_, .brk h, .inl ⟨_, _, rfl, q⟩⟩
      · subst ho
        exact ⟨_, .ret h, .inr ⟨rfl, d, g', rfl⟩⟩
  exact key ds 0 S g rfl (by simp) h0
/-- one turn of a for: the target, then the body -/
inductive FTurn (X : Cx) (F : Fm) (tg : Expr) (body rest : List Stmt) (o : Out) (Inv : List Sl → DS → Prop) (x : D) (S : List Sl) (g : DS) : Prop
  | mk {S1 : List Sl} (h : XG X F S tg x S1) (t : Turn X F body rest o Inv S1 g) : FTurn X F tg body rest o Inv x S g
theorem fr_for (Inv : Nat → List Sl → DS → Prop) (h0 : Inv 0 S g) (hs : ∀ (i : Nat) (x : D) S g, ds[i]? = some x → Inv i S g → FTurn X F tg body rest o (Inv (i + 1)) x S g) (he : ∀ S g, Inv ds.length S g → XB X F S g rest o) :
    ∃ o1, Fr (Step X F tg body) ds S g o1 ∧ ((∃ S' g', o1 = .nx S' g' ∧ XB X F S' g' rest o) ∨ (o1 = o ∧ ∃ d g', o = .rt d g')) := by
  refine fr_ind Inv (fun S g => XB X F S g rest o) ds h0 (fun i x S g hx hI => ?_) he
  obtain ⟨h, t⟩ := hs i x S g hx hI
  cases t with
  | next hb hi => exact .inl ⟨_, _, .inl ⟨_, h, hb⟩, hi⟩
  | cont hb hi => exact .inl ⟨_, _, .inr ⟨_, h, hb⟩, hi⟩
  | brk hb r => exact .inr (.inl ⟨_, _, ⟨_, h, hb⟩, r⟩)
  | ret hb st => exact .inr (.inr ⟨⟨_, h, hb⟩, st⟩)
theorem xb_loop {st : Stmt} (hx : ∀ o1, Fr (Step X F tg body) ds S g1 o1 → XS X F S g st o1) (h : ∃ o1, Fr (Step X F tg body) ds S g1 o1 ∧ ((∃ S' g', o1 = .nx S' g' ∧ XB X F S' g' rest o) ∨ (o1 = o ∧ ∃ d g', o = .rt d g'))) : XB X F S g (st :: rest) o := by
  obtain ⟨o1, f, q⟩ := h
  rcases q with ⟨S', g', rfl, r⟩ | ⟨rfl, d, g', rfl⟩
  · exact xb_cons (hx _ f) r
  · exact xb_stop (hx _ f)
theorem xb_forL (hi : XE X F S g iter g1 (.lst ds)) (Inv : Nat → List Sl → DS → Prop) (h0 : Inv 0 S g1) (ht : ∀ (i : Nat) (x : D) S g, ds[i]? = some x → Inv i S g → FTurn X F tg body rest o (Inv (i + 1)) x S g) (he : ∀ S g, Inv ds.length S g → XB X F S g rest o)
    (hp : PassesOwn (model X.prog X.w) X.A X.env X.xe := by exact PassesOwn.never) (hc : X.calm = true := by rfl) (hs : ∀ x, foldedSetIterable iter X.env x = pure x := by intro _; rfl) : XB X F S g (.For tg iter body [] pos :: rest) o :=
  xb_loop (fun _ f => xs_forL hi f hp hc hs) (fr_for Inv h0 ht he)
theorem xb_forT (hi : XE X F S g iter g1 (.tup ds)) (Inv : Nat → List Sl → DS → Prop) (h0 : Inv 0 S g1) (ht : ∀ (i : Nat) (x : D) S g, ds[i]? = some x → Inv i S g → FTurn X F tg body rest o (Inv (i + 1)) x S g) (he : ∀ S g, Inv ds.length S g → XB X F S g rest o)
    (hp : PassesOwn (model X.prog X.w) X.A X.env X.xe := by exact PassesOwn.never) (hc : X.calm = true := by rfl) (hs : ∀ x, foldedSetIterable iter X.env x = pure x := by intro _; rfl) : XB X F S g (.For tg iter body [] pos :: rest) o :=
  xb_loop (fun _ f => xs_forT hi f hp hc hs) (fr_for Inv h0 ht he)
theorem xb_forR1 {n : Nat} (hi : XD X F S g [a] g1 [.int (n : Nat)]) (Inv : Nat → List Sl → DS → Prop) (h0 : Inv 0 S g1) (ht : ∀ (i : Nat) S g, i < n → Inv i S g → FTurn X F tg body rest o (Inv (i + 1)) (.int (i : Nat)) S g) (he : ∀ S g, Inv n S g → XB X F S g rest o) (hn : n < 2 ^ 62) (hm : X.mg "range" = none)
    (hg : Gl X "range" := by rfl) (hp : PassesOwn (model X.prog X.w) X.A X.env X.xe := by exact PassesOwn.never) (hc : X.calm = true := by rfl)
    (hs1 : starEach [a] X.env = [(false, eval a X.env)] := by rfl) (hs : ∀ x, foldedSetIterable (.Call (.Name "range" p1) [a] [] p2) X.env x = pure x := by intro _; rfl) : XB X F S g (.For tg (.Call (.Name "range" p1) [a] [] p2) body [] pos :: rest) o := by
  refine xb_loop (fun _ f => xs_forR1 hi (by omega) f hm hg hp hc hs1 hs) (fr_for Inv h0 (fun i x S g hx hI => ?_) (fun S g hI => he S g ?_))
  · have hi' : i < n := by
      have := (List.getElem?_eq_some_iff.mp hx).1
      rw [rngD_len] at this
      omega
    have e : rngD 0 (n : Int).toNat = rngD 0 n := by rw [Int.toNat_natCast]
    rw [e, rngD_get hi'] at hx
    cases hx
    rw [Int.zero_add]
    exact ht i S g hi' hI
  · rw [rngD_len, Int.toNat_natCast] at hI
    exact hI
/-! ### comprehensions by functions -/
/-- each item gives an element -/
theorem lr_map {step : D → DS → Option D → DS → Prop} (f : D → D) (ds : List D) (h : ∀ x ∈ ds, step x g (some (f x)) g) : Lr step ds g (ds.map f) g := by
  induction ds with
  | nil => exact .nil
  | cons x r ih => exact .keep (h x List.mem_cons_self) (ih fun y hy => h y (List.mem_cons_of_mem _ hy))
/-- those of a test -/
theorem lr_filter {step : D → DS → Option D → DS → Prop} (t : D → Bool) (f : D → D) (ds : List D) (h1 : ∀ x ∈ ds, t x = true → step x g (some (f x)) g) (h2 : ∀ x ∈ ds, t x = false → step x g none g) : Lr step ds g ((ds.filter t).map f) g := by
  induction ds with
  | nil => exact .nil
  | cons x r ih =>
    have ih' := ih (fun y hy => h1 y (List.mem_cons_of_mem _ hy)) (fun y hy => h2 y (List.mem_cons_of_mem _ hy))
    cases ht : t x with
    | true =>
      rw [List.filter_cons_of_pos ht]
      exact .keep (h1 x List.mem_cons_self ht) ih'
    | false =>
      rw [List.filter_cons_of_neg (by rw [ht]; exact Bool.false_ne_true)]
      exact .skip (h2 x List.mem_cons_self ht) ih'
/-- one turn, told: target a name at slot n; no test -/
theorem lstep1 {scope : Scope} {vs : List Nat} {elt : Expr} {g' : DS} {y : D} {S1 : List Sl} (hO : Outs vs (wipeS S vs) S1)
    (hL : ∀ (s : Shared) (H : Hp) (C : Addr) (cl : List (Str × Addr)) (fp : List Addr), XL (X.blk s H scope (compEnvC scope cl C X.env) fp) F vs (wipeS S vs) tg x S1)
    (hE : ∀ (T : List Sl) (s : Shared) (H : Hp) (C : Addr) (cl : List (Str × Addr)) (fp : List Addr), XE (X.blk s H scope (compEnvC scope cl C X.env) fp) F (S1 ++ T) g elt g' y) : LStep X scope F vs S tg [] elt x g (some y) g' :=
  ⟨S1, true, g, hO, hL, fun T s H C cl fp => xts_nil, rfl, hE⟩
/-- .. with a test that holds, that does not -/
theorem lstepT {scope : Scope} {vs : List Nat} {elt c : Expr} {gm g' : DS} {y : D} {S1 : List Sl} (hO : Outs vs (wipeS S vs) S1)
    (hL : ∀ (s : Shared) (H : Hp) (C : Addr) (cl : List (Str × Addr)) (fp : List Addr), XL (X.blk s H scope (compEnvC scope cl C X.env) fp) F vs (wipeS S vs) tg x S1)
    {b1 : Bool} (hT : ∀ (T : List Sl) (s : Shared) (H : Hp) (C : Addr) (cl : List (Str × Addr)) (fp : List Addr), XT (X.blk s H scope (compEnvC scope cl C X.env) fp) F (S1 ++ T) g c gm b1)
    (hE : ∀ (T : List Sl) (s : Shared) (H : Hp) (C : Addr) (cl : List (Str × Addr)) (fp : List Addr), XE (X.blk s H scope (compEnvC scope cl C X.env) fp) F (S1 ++ T) gm elt g' y) (h1 : b1 = true := by rfl) : LStep X scope F vs S tg [c] elt x g (some y) g' := by
  subst h1
  exact ⟨S1, true, gm, hO, hL, fun T s H C cl fp => xts_one (hT T s H C cl fp), rfl, hE⟩
theorem lstepF {scope : Scope} {vs : List Nat} {elt c : Expr} {g' : DS} {S1 : List Sl} (hO : Outs vs (wipeS S vs) S1)
    (hL : ∀ (s : Shared) (H : Hp) (C : Addr) (cl : List (Str × Addr)) (fp : List Addr), XL (X.blk s H scope (compEnvC scope cl C X.env) fp) F vs (wipeS S vs) tg x S1)
    {b1 : Bool} (hT : ∀ (T : List Sl) (s : Shared) (H : Hp) (C : Addr) (cl : List (Str × Addr)) (fp : List Addr), XT (X.blk s H scope (compEnvC scope cl C X.env) fp) F (S1 ++ T) g c g' b1) (h1 : b1 = false := by rfl) : LStep X scope F vs S tg [c] elt x g none g' := by
  subst h1
  exact ⟨S1, false, g', hO, hL, fun T s H C cl fp => xts_one (hT T s H C cl fp), rfl, rfl⟩
end
end Z
/-! The draws: what they give, where they lie. -/
namespace Z
open PySem PySem.Spec PyProof.Rows L2

/-! ### the mathematics -/
/-- the digits' lot without the noughts at its end -/
def strip (xs : List Int) : List Int := (xs.reverse.dropWhile (· == 0)).reverse
structure Good (g : DS) : Prop where
  cell : ∀ x ∈ g.1, 0 ≤ x ∧ x < 2 ^ 1300
  few : g.1.length ≤ 63
  lo : 0 ≤ g.2
  hi : g.2 < 2147483647
def stir (m : Int) : Int := (m * 48271 + 31) % 2147483647
/-- a number below b, and the draws behind it -/
def anyF (g : DS) (b : Int) : Int × DS :=
  match (strip g.1).getLast? with
  | some x => (x % b, ((strip g.1).dropLast ++ [x / b], g.2))
  | none => ((stir g.2 / 64) % b, ([], stir g.2))
theorem strip_snoc (xs : List Int) (x : Int) : strip (xs ++ [x]) = if x = 0 then strip xs else xs ++ [x] := by
  unfold strip
  rw [List.reverse_append, List.reverse_singleton, List.singleton_append, List.dropWhile_cons]
  by_cases h : x = 0
  · rw [if_pos h, if_pos (by rw [h]; rfl)]
  · rw [if_neg h, if_neg (by simpa using h), List.reverse_cons, List.reverse_reverse]
theorem strip_sub : ∀ (xs : List Int), ∃ n, strip xs = xs.take n := fun xs => by
  generalize hn : xs.length = n
  induction n generalizing xs with
  | zero =>
    have : xs = [] := List.length_eq_zero_iff.mp hn
    subst this
    exact ⟨0, rfl⟩
  | succ n ih =>
    have hne : xs ≠ [] := fun e => by rw [e] at hn; cases hn
    have e := List.dropLast_concat_getLast hne
    rw [← e, strip_snoc]
    split
    · obtain ⟨k, hk⟩ := ih xs.dropLast (by rw [List.length_dropLast]; omega)
      refine ⟨min k n, ?_⟩
      rw [hk, List.take_append_of_le_length (by rw [List.length_dropLast]; omega)]
      by_cases hkn : k ≤ n
      · rw [Nat.min_eq_left hkn]
      · rw [Nat.min_eq_right (by omega), List.take_of_length_le (by rw [List.length_dropLast]; omega), List.take_of_length_le (by rw [List.length_dropLast]; omega)]
    · exact ⟨xs.length, by rw [List.take_of_length_le (by rw [List.length_append, List.length_dropLast]; simp; omega)]⟩
theorem strip_mem {xs : List Int} {x : Int} (h : x ∈ strip xs) : x ∈ xs := by
  obtain ⟨n, e⟩ := strip_sub xs
  rw [e] at h
  exact List.mem_of_mem_take h
theorem strip_len (xs : List Int) : (strip xs).length ≤ xs.length := by
  obtain ⟨n, e⟩ := strip_sub xs
  rw [e, List.length_take]
  omega
theorem any_good {g : DS} {b : Int} (h : Good g) (hb : 0 < b) : (0 ≤ (anyF g b).1 ∧ (anyF g b).1 < b) ∧ Good (anyF g b).2 := by
  unfold anyF
  cases e : (strip g.1).getLast? with
  | some x =>
    have hx : x ∈ g.1 := strip_mem (List.mem_of_getLast? e)
    obtain ⟨x0, x1⟩ := h.cell x hx
    refine ⟨⟨Int.emod_nonneg _ (by omega), Int.emod_lt_of_pos _ hb⟩, fun y hy => ?_, ?_, h.lo, h.hi⟩
    · rcases List.mem_append.mp hy with hy | hy
      · exact h.cell y (strip_mem (List.dropLast_subset _ hy))
      · rw [List.mem_singleton] at hy
        subst hy
        exact ⟨Int.ediv_nonneg x0 (by omega), Int.lt_of_le_of_lt (Int.ediv_le_self b x0) x1⟩
    · show ((strip g.1).dropLast ++ [x / b]).length ≤ 63
      have h1 := strip_len g.1
      have h2 := h.few
      have h3 : 0 < (strip g.1).length := by
        cases q : strip g.1 with
        | nil => rw [q] at e; cases e
        | cons _ _ => exact Nat.succ_pos _
      rw [List.length_append, List.length_dropLast, List.length_singleton]
      omega
  | none =>
    refine ⟨⟨Int.emod_nonneg _ (by omega), Int.emod_lt_of_pos _ hb⟩, fun y hy => (by cases hy), Nat.zero_le _, ?_, ?_⟩
    · exact Int.emod_nonneg _ (by decide)
    · exact Int.emod_lt_of_pos _ (by decide)

/-! ### where they lie -/
def HD (H : Hp) (a c : Addr) (g : DS) : Hp := fun x => if x = a then some (.lst [.ref c, .int g.2]) else if x = c then some (.lst (g.1.map V.int)) else H x
section
variable {H Hs : Hp} {a c : Addr} {g g' : DS}
theorem HD_eq (h : DealAt H a c g) (n : a ≠ c) : HD H a c g = H := by
  funext x
  unfold HD
  by_cases h1 : x = a
  · rw [if_pos h1, h1, h.1]
  · rw [if_neg h1]
    by_cases h2 : x = c
    · rw [if_pos h2, h2, h.2]
    · rw [if_neg h2]
theorem HD_a : HD H a c g a = some (.lst [.ref c, .int g.2]) := by unfold HD; rw [if_pos rfl]
theorem HD_c (n : a ≠ c) : HD H a c g c = some (.lst (g.1.map V.int)) := by unfold HD; rw [if_neg (Ne.symm n), if_pos rfl]
theorem HD_other {x : Addr} (h1 : x ≠ a) (h2 : x ≠ c) : HD H a c g x = H x := by unfold HD; rw [if_neg h1, if_neg h2]
theorem HD_updc {xs : List Int} (n : a ≠ c) : upd (HD H a c g) c (.lst (xs.map V.int)) = HD H a c (xs, g.2) := by
  funext x
  unfold upd HD
  by_cases h1 : x = c
  · rw [if_pos h1, if_neg (by rw [h1]; exact Ne.symm n), if_pos h1]
  · rw [if_neg h1, if_neg h1, if_neg h1]
theorem HD_upda {m : Int} : upd (HD H a c g) a (.lst [.ref c, .int m]) = HD H a c (g.1, m) := by
  funext x
  unfold upd HD
  by_cases h1 : x = a
  · rw [if_pos h1, if_pos h1]
  · rw [if_neg h1, if_neg h1, if_neg h1]
theorem HD_deal (n : a ≠ c) : DealAt (HD H a c g) a c g := ⟨HD_a, HD_c n⟩
theorem HD_fin (e : Same Hs H) (n : a ≠ c) (h2 : Hs a = none) (h3 : Hs c = none) : Fin ⟨H, Hs, true, a, c⟩ Hs (HD H a c g') g' where
  base := fun b o hb h => by
    obtain ⟨n1, n2⟩ := hb rfl
    rw [HD_other n1 n2]; exact h
  ex0 := Same.refl _
  ex := fun b o h => by
    rw [HD_other (ne_of_none h h2) (ne_of_none h h3)]
    exact e b o h
  new := fun x o h => .inl ⟨o, h⟩
  deal := fun _ => ⟨n, h2, h3, HD_deal n⟩
end
def R_any (as : List Ar) (g : DS) (d : D) (g' : DS) : Prop := ∃ b : Int, as = [.dl, .v (.int b)] ∧ 0 < b ∧ b < 2 ^ 8000 ∧ Good g ∧ d = .int (anyF g b).1 ∧ g' = (anyF g b).2
def R_of (as : List Ar) (g : DS) (d : D) (g' : DS) : Prop := ∃ (x : D) (xs : List D), as = [.dl, .v x] ∧ (x = .lst xs ∨ x = .tup xs) ∧ 0 < xs.length ∧ xs.length < 1000 ∧ Good g ∧ xs[(anyF g xs.length).1.toNat]? = some d ∧ g' = (anyF g xs.length).2

/-! is True, is False -/
def rIsAny : R2 := fun x y H Q => ∃ b : Bool, flatV x = true ∧ y = .bl b ∧ Q (.bl (decide (x = .bl b))) H
theorem op_isAny {X : Cx} : OpR X (compareOp .Is) rIsAny := by
  intro pins s σ H x y v u Q I rx ry h
  obtain ⟨b, hf, rfl, q⟩ := h
  cases (show u = Value.bool b from ry)
  cases x with
  | bl c =>
    cases (show v = Value.bool c from rx)
    by_cases e : c = b
    · subst e
      exact wpAny_is_self rfl ⟨.bl true, H, I, rfl, by simpa using q⟩
    · exact wpAny_is_other rfl (fun z => e (Value.bool.inj z)) ⟨.bl false, H, I, rfl, by simpa [e] using q⟩
  | non => cases (show v = Value.none from rx); exact wpAny_pure ⟨.bl false, H, I, rfl, q⟩
  | int i => obtain ⟨t, rfl⟩ := (show ∃ t, v = Value.int i t from rx); exact wpAny_pure ⟨.bl false, H, I, rfl, q⟩
  | str i => obtain ⟨t, rfl⟩ := (show ∃ t, v = Value.str i t from rx); exact wpAny_pure ⟨.bl false, H, I, rfl, q⟩
  | _ => cases hf
def isBl (b : Bool) : D → Bool | .bl c => c == b | _ => false
section
variable {X : Cx} {F : Fm} {S : List Sl} {g g1 : DS} {a : Expr} {x : D} {pos p : Pos} {j : Nat} {b : Bool}
theorem isBl_v {Hs : Hp} {v : V} (r : Rp X.K Hs v x) : decide (v = .bl b) = isBl b x := by
  cases r with
  | bl c =>
    show decide (V.bl c = V.bl b) = (c == b)
    by_cases h : c = b
    · subst h; simp
    · rw [decide_eq_false (fun q => h (V.bl.inj q))]; exact (beq_eq_false_iff_ne.mpr h).symm
  | _ => exact decide_eq_false fun q => nomatch q
theorem flat_v {Hs : Hp} {v : V} (r : Rp X.K Hs v x) (h : flatD x = true) : flatV v = true := (eqF_v (y := x) (x := x) r r h).2
theorem xe_isB (ha : XE X F S g a g1 x) (hf : flatD x = true) : XE X F S g (.Compare a [.Is] [.Constant (.bool b) j p] pos) g1 (.bl (isBl b x)) := xe_cmp op_isAny (nomark _) ha xe_bl fun _ _ _ _ _ _ _ ok ru rv q => by
  cases rv
  exact ⟨b, flat_v ru hf, rfl, by rw [isBl_v ru]; exact q⟩
theorem xt_isB (ha : XE X F S g a g1 x) (hf : flatD x = true) : XT X F S g (.Compare a [.Is] [.Constant (.bool b) j p] pos) g1 (isBl b x) := xt_cmp op_isAny (nomark _) ha xe_bl fun _ _ _ _ _ _ _ ok ru rv q => by
  cases rv
  exact ⟨b, flat_v ru hf, rfl, by rw [isBl_v ru]; exact q⟩
end
/-! two things alike, of data that holds no lists -/
mutual
/-- tuples, numbers, texts, bools, None -/
def plainD : D → Bool
  | .tup ds => plainDs ds
  | .lst _ => false
  | _ => true
def plainDs : List D → Bool
  | [] => true
  | d :: ds => plainD d && plainDs ds
end
mutual
def nodes : D → Nat
  | .tup ds => 1 + nodesL ds
  | .lst ds => 1 + nodesL ds
  | _ => 1
def nodesL : List D → Nat
  | [] => 0
  | d :: ds => nodes d + nodesL ds
end
theorem nodes_pos (d : D) : 0 < nodes d := by cases d <;> unfold nodes <;> omega
theorem plainDs_mem : ∀ {ds : List D} {d : D}, plainDs ds = true → d ∈ ds → plainD d = true
  | [], _, _, h => by cases h
  | e :: r, d, h, hm => by
    unfold plainDs at h
    rw [Bool.and_eq_true] at h
    rcases List.mem_cons.mp hm with rfl | hm
    · exact h.1
    · exact plainDs_mem h.2 hm
theorem nodesL_append (xs ys : List D) : nodesL (xs ++ ys) = nodesL xs + nodesL ys := by
  induction xs with
  | nil => rw [List.nil_append, show nodesL [] = 0 by unfold nodesL; rfl, Nat.zero_add]
  | cons x xs ih => rw [List.cons_append, show nodesL (x :: (xs ++ ys)) = nodes x + nodesL (xs ++ ys) from by rw [nodesL], ih, show nodesL (x :: xs) = nodes x + nodesL xs from by rw [nodesL], Nat.add_assoc]
def R_is_kind (ds : List D) (d : D) : Prop := ∃ x, ds = [x, x] ∧ flatD x = true ∧ d = .bl true
def R_same (ds : List D) (d : D) : Prop := ∃ x, ds = [x, x] ∧ plainD x = true ∧ nodes x ≤ 100000 ∧ d = .bl true
/-- pairs of two things that are alike -/
def goodPairs (ps : List D) : Prop := ∀ p ∈ ps, ∃ x, p = .tup [x, x] ∧ plainD x = true ∧ nodes x ≤ 100000
def R_all (ds : List D) (d : D) : Prop := ∃ ps, ds = [.lst ps] ∧ goodPairs ps ∧ ps.length < 1000000 ∧ d = .bl true

section
variable {X : Cx} {F : Fm} {S S1 : List Sl} {g g1 g2 : DS} {a : Expr} {x d : D} {pos p : Pos} {rest : List Stmt} {st : Stmt} {o : Out} {es : List Expr} {ds : List D}
/-- a block that ends, a slot forgotten -/
theorem xb_nil_un (i : Nat) : XB X F S g [] (.nx (S.set i .un) g) := pss_mono pss_nil fun D σ H ⟨Hs, A, ok, k⟩ => k Hs A H σ (Same.refl _) (ok.forget i)
theorem xb_forget (i : Nat) (h : XB X F (S.set i .un) g rest o) : XB X F S g rest o := pss_mono h fun D σ H ⟨Hs, A, ok, k⟩ => ⟨Hs, A, ok.forget i, k⟩
theorem lr_none {step : D → DS → Option D → DS → Prop} (ds : List D) (h : ∀ x ∈ ds, step x g none g) : Lr step ds g [] g := by
  induction ds with
  | nil => exact .nil
  | cons x r ih => exact .skip (h x List.mem_cons_self) (ih fun y hy => h y (List.mem_cons_of_mem _ hy))

/-! ### the draws are made -/
/-- F, with draws at a and c from here on -/
def Fm.deal (F : Fm) (a c : Addr) : Fm := ⟨F.H0, F.Hs0, true, a, c⟩
/-- what _law_deal promises: new draws -/
def spMk (K : PySem.W.Frag) : Sp := fun vs H Q _ => ∃ (s : Addr) (salt : Int) (ns : List Int), vs = [.ref s, .int salt] ∧ SqL K H s (ns.map V.int) ∧ ns.length ≤ 63 ∧ (0 ≤ salt ∧ salt < 200000) ∧
  ∀ (a c : Addr) (g : DS) (H' : Hp), a ≠ c → H a = none → H c = none → Same H H' → DealAt H' a c g → Good g → Q (.ref a) H'
theorem Ok.mkDeal {K : PySem.W.Frag} {Hs H H' : Hp} {A : Nat → Addr} {σ : L2.St} {a c : Addr} (q : Ok K F Hs A H σ S g) (hd : F.dl = false) (hac : a ≠ c) (ha : H a = none) (hc : H c = none) (e : Same H H') (D : DealAt H' a c g1) : Ok K (F.deal a c) Hs A H' σ S g1 := by
  refine ⟨⟨fun b o hb h => ?_, q.ex0, q.ex.trans e, q.new, fun _ => ⟨hac, q.toFin.freeS ha, q.toFin.freeS hc, D⟩⟩, q.len, q.val, fun i ds h => ?_, q.sep, fun i h => ?_, q.raw⟩
  · exact e b o (q.base b o (fun z => by rw [hd] at z; cases z) h)
  · obtain ⟨h1, h2, h3, ⟨vs, h4, h5⟩, h6⟩ := q.own i ds h
    exact ⟨h1, h2, h3, ⟨vs, e _ _ h4, h5⟩, fun _ => ⟨ne_of_none h4 ha, ne_of_none h4 hc⟩⟩
  · have := (q.dref i h).2
    rw [hd] at this; cases this
theorem Fin.undeal {Hs H : Hp} {a c : Addr} (hd : F.dl = false) (ha : F.H0 a = none) (hc : F.H0 c = none) (q : Fin (F.deal a c) Hs H g1) : Fin F Hs H g where
  base := fun b o _ h => q.base b o (fun _ => ⟨ne_of_none h ha, ne_of_none h hc⟩) h
  ex0 := q.ex0
  ex := q.ex
  new := q.new
  deal := fun z => by rw [hd] at z; cases z
theorem Ok.setdl {K : PySem.W.Frag} {Hs H : Hp} {A : Nat → Addr} {σ : L2.St} (q : Ok K F Hs A H σ S g) (hd : F.dl = true) {i : Nat} (hi : i < σ.length) : Ok K F Hs A H (σ.set i (some (.ref F.a))) (S.set i .dl) g := by
  have hS : i < S.length := Nat.lt_of_lt_of_le hi q.len
  have sub : ∀ (j : Nat) (s : Sl), (S.set i .dl)[j]? = some s → (j = i ∧ s = .dl) ∨ (i ≠ j ∧ S[j]? = some s) := fun j s h => by
    by_cases hj : i = j
    · subst hj; rw [List.getElem?_set_self hS] at h; exact .inl ⟨rfl, (Option.some.inj h).symm⟩
    · rw [List.getElem?_set_ne hj] at h; exact .inr ⟨hj, h⟩
  refine ⟨q.toFin, by rw [List.length_set, List.length_set]; exact q.len, fun j d h => ?_, fun j ds h => ?_, fun j k ds es h1 h2 e => ?_, fun j h => ?_, fun j x h => ?_⟩
  · rcases sub j _ h with ⟨_, z⟩ | ⟨n, h⟩
    · cases z
    · rw [List.getElem?_set_ne n]; exact q.val j d h
  · rcases sub j _ h with ⟨_, z⟩ | ⟨n, h⟩
    · cases z
    · obtain ⟨h1, h2⟩ := q.own j ds h
      exact ⟨fun hl => by rw [List.length_set] at hl; rw [List.getElem?_set_ne n]; exact h1 hl, h2⟩
  · rcases sub j _ h1 with ⟨_, z⟩ | ⟨n, h1⟩
    · cases z
    · rcases sub k _ h2 with ⟨_, z⟩ | ⟨n, h2⟩
      · cases z
      · exact q.sep j k ds es h1 h2 e
  · rcases sub j _ h with ⟨z, _⟩ | ⟨n, h⟩
    · subst z; exact ⟨List.getElem?_set_self hi, hd⟩
    · rw [List.getElem?_set_ne n]; exact q.dref j h
  · rcases sub j _ h with ⟨_, z⟩ | ⟨n, h⟩
    · cases z
    · rw [List.getElem?_set_ne n]; exact q.raw j x h
/-- the end of a law: whatever the draws are -/
def tMk (X : Cx) (F : Fm) (S : List Sl) (d : D) (rest : List Stmt) : TS := fun D σ H => ∃ p : Addr × Addr × DS × DS, XB X (F.deal p.1 p.2.1) S p.2.2.1 rest (.rt d p.2.2.2) ∧ tSt X.K (F.deal p.1 p.2.1) S p.2.2.1 (.rt d p.2.2.2) D σ H
theorem tMk_ok : PSs X rest (tMk X F S d rest) := pss_union fun _ h => h
/-- deal = _law_deal(script, salt), then the rest -/
theorem xb_deal (i n : Nat) {k : Nat} {nm nd ns' : Str} {pd pf ps' : Pos} {s : Addr} {salt : Int} {ls : List Int} {j : Nat} {pk : Pos} {stn : Stmt} {ps : List Str} (Dn : Def X.prog X.w X.K X.mg X.base k nm stn ps (spMk X.K)) (hr : Room k X.A) (hd : F.dl = false) (h0 : S[n]? = some (.raw (.ref s))) (hs : SqL X.K F.H0 s (ls.map V.int)) (hl : ls.length ≤ 63) (hsalt : (0 ≤ salt ∧ salt < 200000))
    (hrest : ∀ a c g1, Good g1 → ∃ g2, XB X (F.deal a c) (S.set i .dl) g1 rest (.rt d g2)) (hN : X.N.Nodup) (hi : X.N[i]? = some nd := by rfl) (hn : X.N[n]? = some ns' := by rfl) (hx : Loc X.env.scope nd := by first | exact Or.inl rfl | exact Or.inr rfl) (hf : X.fn nd = true ∨ X.env.scope.names.lookup nd = some .local := by first | exact .inl rfl | exact .inr rfl)
    (hv : Vis X.env.scope ns' := by first | exact Or.inl rfl | exact Or.inr (Or.inl rfl) | exact Or.inr (Or.inr rfl)) (hd1 : (ns' == ("__debug__" : Str)) = false := by decide) (hd2 : (ns' == ("__classdict__" : Str)) = false := by decide) (hg : Gl X nm := by rfl) (hdb : (nm == ("__debug__" : Str)) = false := by decide)
    (he : starEach [.Name ns' ps', .Constant (.int salt) j pk] X.env = (false, eval (.Name ns' ps') X.env) :: starEach [.Constant (.int salt) j pk] X.env := by rfl) (he2 : starEach [.Constant (.int salt) j pk] X.env = (false, eval (.Constant (.int salt) j pk) X.env) :: starEach [] X.env := by rfl) (hpl : (backTo pf (starEach [.Constant (.int salt) j pk] X.env)).any (·.1) = false := by rfl)
    (hsw : swapsWith (.Call (.Name nm p) [.Name ns' ps', .Constant (.int salt) j pk] [] pf) (some (.Name nd pd)) pos.line X.env = pure false := by rfl) :
    XB X F S g (.Assign [.Name nd pd] (.Call (.Name nm p) [.Name ns' ps', .Constant (.int salt) j pk] [] pf) pos :: rest) (.rt d g2) := by
  obtain ⟨f, fd, G, Fn, hm, hb⟩ := Dn.ex
  refine ⟨fun pins st' σ H En I ⟨Hs, A, ok, q⟩ => ?_⟩
  refine (pss_cons (ps_set (pos := pos) hN hi hx (pe_call (E := E0) G hr hg hm Fn.kp hb .nil pass0 (pa_cons (pe_var hn hv hd1 hd2) (pa_cons pe_int pa_nil he2) he) hdb he hpl) hsw hf) (tMk_ok (F := F) (S := S.set i .dl) (d := d))).run pins st' σ H En I ?_
  have hS : SqL X.K H s (ls.map V.int) := by
    have hbase : ∀ b o, F.H0 b = some o → H b = some o := fun b o h => ok.base b o (fun z => by rw [hd] at z; cases z) h
    exact (show Same F.H0 H from hbase).seq hs
  refine ⟨_, ok.raw n _ h0, s, salt, ls, rfl, hS, hl, hsalt, fun a c g1 H' hac ha hc e D hG => ?_⟩
  obtain ⟨g3, hB⟩ := hrest a c g1 hG
  have okD := (ok.mkDeal hd hac ha hc e D).setdl (i := i) rfl (by rw [I.len]; exact (List.getElem?_eq_some_iff.mp hi).1)
  refine ⟨(a, c, g1, g3), hB, Hs, A, okD, fun v Hs' H2 e2 fin r => q v Hs' H2 e2 (fin.undeal hd (ok.toFin.free ha) (ok.toFin.free hc)) r⟩
end

section
variable {P : Program} {w : World} {K : PySem.W.Frag} {mg : Str → Option Value} {base : Heap} {x : Str} {st : Stmt} {f : Addr} {fd : FuncData} {N ps : List Str} {k : Nat}
/-- the slots at the entry, the values as they are -/
def slotsR (N : List Str) (vs : List V) : List Sl := vs.map Sl.raw ++ List.replicate (N.length - vs.length) Sl.un
theorem ok_startR {H : Hp} {vs : List V} {g : DS} (hl : vs.length ≤ N.length) : Ok K ⟨H, fun _ => none, false, 0, 0⟩ (fun _ => none) (fun _ => 0) H (L2.start N vs) (slotsR N vs) g := by
  have get : ∀ (i : Nat) (s : Sl), (slotsR N vs)[i]? = some s → s = .un ∨ ∃ v, s = .raw v ∧ vs[i]? = some v := fun i s h => by
    unfold slotsR at h
    by_cases hi : i < vs.length
    · rw [List.getElem?_append_left (by rw [List.length_map]; exact hi), List.getElem?_map, List.getElem?_eq_getElem hi] at h
      exact .inr ⟨vs[i], (Option.some.inj h).symm, List.getElem?_eq_getElem hi⟩
    · rw [List.getElem?_append_right (by rw [List.length_map]; omega), List.getElem?_replicate] at h
      split at h
      · exact .inl (Option.some.inj h).symm
      · cases h
  refine ⟨⟨fun _ _ _ q => q, fun _ _ h => (by cases h), fun _ _ h => (by cases h), fun _ _ h => (by cases h), fun z => nomatch z⟩, ?_, fun i d h => ?_, fun i es h => ?_, fun i j es fs h => ?_, fun i h => ?_, fun i x h => ?_⟩
  · rw [start_len hl]
    unfold slotsR
    rw [List.length_append, List.length_map, List.length_replicate]
    omega
  · rcases get i _ h with q | ⟨d', q, hd⟩ <;> cases q
  · rcases get i _ h with q | ⟨d', q, hd⟩ <;> cases q
  · rcases get i _ h with q | ⟨d', q, hd⟩ <;> cases q
  · rcases get i _ h with q | ⟨d', q, hd⟩ <;> cases q
  · rcases get i _ h with q | ⟨d', q, hd⟩
    · cases q
    · cases q
      exact start_get hd
/-- _law_deal keeps its promise -/
theorem fnMk (F : Fun K x x st f fd) (sc : FnScope N ["script", "salt"] (defScope st))
    (hb : ∀ (cdv : Value) (A : Around) (outer : List Env) (s : Shared) (H : Hp) (E : XK) (sa : Addr) (salt : Int) (ns : List Int), Room k (A.deeper (envOfC x (defScope st) s.heap.objs.size f cdv)) → SqL K H sa (ns.map V.int) → ns.length ≤ 63 → (0 ≤ salt ∧ salt < 200000) →
      ∃ g, Good g ∧ XB (cxOf CX0 P w K mg base N x (defScope st) f cdv A outer s H E).nox ⟨H, fun _ => none, false, 0, 0⟩ ([.raw (.ref sa), .v (.int salt)] ++ List.replicate (N.length - 2) .un) ([], 0) (defBody st) (.rd g)) : FnOk P w K mg base CX0 (k + 1) f fd ["script", "salt"] (spMk K) := by
  have hpl : 2 ≤ N.length := by have := congrArg List.length sc.pre; rw [List.length_take] at this; simp at this; omega
  refine F.ok sc (fun vs H Q E h => ?_) (fun cdv A outer s H vs Q E hr h => ?_)
  · obtain ⟨sa, salt, ns, rfl, _⟩ := h; rfl
  · obtain ⟨sa, salt, ns, rfl, hS, hl, hsa, q⟩ := h
    obtain ⟨g, hG, hB⟩ := hb cdv A outer s H E sa salt ns hr hS hl hsa
    have ok0 : Ok K ⟨H, fun _ => none, false, 0, 0⟩ (fun _ => none) (fun _ => 0) H (L2.start N [.ref sa, .int salt]) (slotsR N [.ref sa, .int salt]) ([], 0) := ok_startR hpl
    have h1 : (L2.start N [.ref sa, .int salt])[1]? = some (some (.int salt)) := start_get rfl
    have hl1 : 1 < (L2.start N [.ref sa, .int salt]).length := by rw [start_len (vs := [V.ref sa, V.int salt]) hpl]; omega
    have ok1 := ok0.setv (i := 1) (x := .int salt) (d := .int salt) hl1 (.int _)
    have e : (L2.start N [.ref sa, .int salt]).set 1 (some (.int salt)) = L2.start N [.ref sa, .int salt] := by
      obtain ⟨w1, w2⟩ := List.getElem?_eq_some_iff.mp h1
      rw [← w2, List.set_getElem_self]
    rw [e] at ok1
    exact ⟨_, hB, _, _, ok1, fun a c H' hac ha hc e D => q a c g H' hac ha hc e D hG⟩
/-- a law's own promise: True, whatever the script of at most 63 numbers -/
def spLaw (K : PySem.W.Frag) : Sp := fun vs H Q _ => ∃ (a : Addr) (ns : List Int), vs = [.ref a] ∧ SqL K H a (ns.map V.int) ∧ ns.length ≤ 63 ∧ ∀ H', Q (.bl true) H'
theorem fnLaw (F : Fun K x x st f fd) (sc : FnScope N ["script"] (defScope st))
    (hb : ∀ (cdv : Value) (A : Around) (outer : List Env) (s : Shared) (H : Hp) (E : XK) (sa : Addr) (ns : List Int), Room k (A.deeper (envOfC x (defScope st) s.heap.objs.size f cdv)) → SqL K H sa (ns.map V.int) → ns.length ≤ 63 →
      ∃ g, XB (cxOf CX0 P w K mg base N x (defScope st) f cdv A outer s H E).nox ⟨H, fun _ => none, false, 0, 0⟩ ([.raw (.ref sa)] ++ List.replicate (N.length - 1) .un) ([], 0) (defBody st) (.rt (.bl true) g)) : FnOk P w K mg base CX0 (k + 1) f fd ["script"] (spLaw K) := by
  have hpl : 1 ≤ N.length := by have := congrArg List.length sc.pre; rw [List.length_take] at this; simp at this; omega
  refine F.ok sc (fun vs H Q E h => ?_) (fun cdv A outer s H vs Q E hr h => ?_)
  · obtain ⟨sa, ns, rfl, _⟩ := h; rfl
  · obtain ⟨sa, ns, rfl, hS, hl, q⟩ := h
    obtain ⟨g, hB⟩ := hb cdv A outer s H E sa ns hr hS hl
    exact ⟨_, hB, _, _, ok_startR hpl, fun v Hs' H' e1 fin r => by cases r; exact q H'⟩
end
end Z
/-! deal, pairs = _law_deal(script, salt), [] -/
namespace Z
open PySem PySem.Spec PyProof.Rows L2
section
variable {X : Cx} {F : Fm} {S S1 : List Sl} {g g1 g2 : DS} {d : D} {pos p : Pos} {rest : List Stmt}
def tMk2 (X : Cx) (F : Fm) (S : List Sl) (d : D) (rest : List Stmt) : TS := fun D σ H => ∃ p : Addr × Addr × DS × DS, XB X (F.deal p.1 p.2.1) S p.2.2.1 rest (.rt d p.2.2.2) ∧ tSt X.K (F.deal p.1 p.2.1) S p.2.2.1 (.rt d p.2.2.2) D σ H
theorem xb_deal2 (i j n : Nat) {k kt k2 : Nat} {nm nd np ns' : Str} {pd pp pf pl pt pt2 ps' : Pos} {s : Addr} {salt : Int} {ls : List Int} {jj : Nat} {pk : Pos} {stn : Stmt} {ps : List Str} (Dn : Def X.prog X.w X.K X.mg X.base k nm stn ps (spMk X.K)) (hr : Room k X.A) (hd : F.dl = false) (h0 : S[n]? = some (.raw (.ref s))) (hs : SqL X.K F.H0 s (ls.map V.int)) (hl : ls.length ≤ 63) (hsalt : (0 ≤ salt ∧ salt < 200000))
    (hrest : ∀ a c g1, Good g1 → ∃ g2, XB X (F.deal a c) ((S.set i .dl).set j (.own [])) g1 rest (.rt d g2)) (hN : X.N.Nodup) (hij : i ≠ j := by decide) (hi : X.N[i]? = some nd := by rfl) (hj : X.N[j]? = some np := by rfl) (hn : X.N[n]? = some ns' := by rfl)
    (hx : Loc X.env.scope nd := by first | exact Or.inl rfl | exact Or.inr rfl) (hf : X.fn nd = true ∨ X.env.scope.names.lookup nd = some .local := by first | exact .inl rfl | exact .inr rfl)
    (hx2 : Loc X.env.scope np := by first | exact Or.inl rfl | exact Or.inr rfl) (hf2 : X.fn np = true ∨ X.env.scope.names.lookup np = some .local := by first | exact .inl rfl | exact .inr rfl)
    (hv : Vis X.env.scope ns' := by first | exact Or.inl rfl | exact Or.inr (Or.inl rfl) | exact Or.inr (Or.inr rfl)) (hd1 : (ns' == ("__debug__" : Str)) = false := by decide) (hd2 : (ns' == ("__classdict__" : Str)) = false := by decide) (hg : Gl X nm := by rfl) (hdb : (nm == ("__debug__" : Str)) = false := by decide) (hc : X.calm = true := by rfl)
    (he : starEach [.Name ns' ps', .Constant (.int salt) jj pk] X.env = (false, eval (.Name ns' ps') X.env) :: starEach [.Constant (.int salt) jj pk] X.env := by rfl) (he2 : starEach [.Constant (.int salt) jj pk] X.env = (false, eval (.Constant (.int salt) jj pk) X.env) :: starEach [] X.env := by rfl) (hpl : (backTo pf (starEach [.Constant (.int salt) jj pk] X.env)).any (·.1) = false := by rfl)
    (he3 : starEach [.Call (.Name nm p) [.Name ns' ps', .Constant (.int salt) jj pk] [] pf, .List [] pl] X.env = (false, eval (.Call (.Name nm p) [.Name ns' ps', .Constant (.int salt) jj pk] [] pf) X.env) :: starEach [.List [] pl] X.env := by rfl) (he4 : starEach [.List [] pl] X.env = (false, eval (.List [] pl) X.env) :: starEach [] X.env := by rfl)
    (hm1 : (assignEach [.Name nd pd, .Name np pp] X.env).map (·.2) = assign (.Name nd pd) X.env :: (assignEach [.Name np pp] X.env).map (·.2) := by rfl) (hm2 : (assignEach [.Name np pp] X.env).map (·.2) = assign (.Name np pp) X.env :: (assignEach [] X.env).map (·.2) := by rfl)
    (hn2 : (assignEach [.Name nd pd, .Name np pp] X.env).length = 2 := by rfl) (hst : (assignEach [.Name nd pd, .Name np pp] X.env).findIdx? (·.1) = none := by rfl)
    (hsw : swapsWithSole [.Tuple [.Name nd pd, .Name np pp] kt pt] (.Tuple [.Call (.Name nm p) [.Name ns' ps', .Constant (.int salt) jj pk] [] pf, .List [] pl] k2 pt2) pos.line X.env = pure false := by rfl) (hw : swappedStores [.Tuple [.Name nd pd, .Name np pp] kt pt] (.Tuple [.Call (.Name nm p) [.Name ns' ps', .Constant (.int salt) jj pk] [] pf, .List [] pl] k2 pt2) X.env = pure none := by rfl)
    (h1 : (assignEach [.Tuple [.Name nd pd, .Name np pp] kt pt] X.env).map (·.2) = [assign (.Tuple [.Name nd pd, .Name np pp] kt pt) X.env] := by rfl) :
    XB X F S g (.Assign [.Tuple [.Name nd pd, .Name np pp] kt pt] (.Tuple [.Call (.Name nm p) [.Name ns' ps', .Constant (.int salt) jj pk] [] pf, .List [] pl] k2 pt2) pos :: rest) (.rt d g2) := by
  obtain ⟨f, fd, G, Fn, hm, hb⟩ := Dn.ex
  refine ⟨fun pins st' σ H En I ⟨Hs, A, ok, q⟩ => ?_⟩
  refine (pss_cons (ps_asg (pos := pos) (pe_tup (pos := pt2) (x1 := k2) (pa_cons (pe_call (E := E0) G hr hg hm Fn.kp hb .nil pass0 (pa_cons (pe_var hn hv hd1 hd2) (pa_cons pe_int pa_nil he2) he) hdb he hpl) (pa_cons (pe_lst (pos := pl) pa_nil) pa_nil he4) he3))
    (pg_tup (k := kt) (pos := pt) hc (pgs_cons (pg_name (pos := pd) hN hi hx hf) (pgs_cons (pg_name (pos := pp) hN hj hx2 hf2) pgs_nil hm2) hm1) hn2 hst) hsw hw h1) (pss_union (X := X) (st := rest) (P := fun p : Addr × Addr × DS × DS => XB X (F.deal p.1 p.2.1) ((S.set i .dl).set j (.own [])) p.2.2.1 rest (.rt d p.2.2.2)) fun _ h => h)).run pins st' σ H En I ?_
  have hS : SqL X.K H s (ls.map V.int) := by
    have hbase : ∀ b o, F.H0 b = some o → H b = some o := fun b o h => ok.base b o (fun z => by rw [hd] at z; cases z) h
    exact (show Same F.H0 H from hbase).seq hs
  refine ⟨_, ok.raw n _ h0, s, salt, ls, rfl, hS, hl, hsalt, fun a c g1 H' hac ha hc' e D hG => ?_⟩
  obtain ⟨g3, hB⟩ := hrest a c g1 hG
  have okD := ok.mkDeal hd hac ha hc' e D
  refine ⟨by show 0 ≤ sizeLine; decide, fun q1 hq1 => ⟨by show 2 ≤ sizeLine; decide, fun q2 hq2 => ?_⟩⟩
  have ok1 := (okD.grow (o := .lst []) hq1).grow (o := .tup [.ref a, .ref q1]) hq2
  refine ⟨q2, _, rfl, .inl (.inl upd_same), rfl, _, _, rfl, _, _, rfl, rfl, ?_⟩
  have hne : q1 ≠ q2 := fun z => by rw [← z, upd_same] at hq2; cases hq2
  have li : i < σ.length := by rw [I.len]; exact (List.getElem?_eq_some_iff.mp hi).1
  have lj : j < σ.length := by rw [I.len]; exact (List.getElem?_eq_some_iff.mp hj).1
  have ok2 := (ok1.setdl (i := i) rfl li).setown (i := j) (ds := []) (vs := []) (p := q1) (by rw [List.length_set]; exact lj) (okD.toFin.freeS hq1) (okD.toFin.free hq1) (by rw [upd_ne hne, upd_same]) (okD.toFin.neDeal hq1) (fun m es hmm => ?_) .nil
  · refine ⟨(a, c, g1, g3), hB, Hs, _, ok2, fun v Hs' H2 e2 fin r => q v Hs' H2 e2 (fin.undeal hd (ok.toFin.free ha) (ok.toFin.free hc')) r⟩
  · by_cases hmi : m = i
    · subst hmi
      by_cases hl' : m < S.length
      · rw [List.getElem?_set_self hl'] at hmm; cases hmm
      · rw [List.getElem?_eq_none (by rw [List.length_set]; omega)] at hmm; cases hmm
    · rw [List.getElem?_set_ne (Ne.symm hmi)] at hmm
      exact okD.ownNe hq1 m es hmm
end
end Z
namespace Z
open PySem PySem.Spec PyProof.Rows L2
def topS (i : Nat) : Stmt := PySem.Challenge.pw_holdrooms_k00_numbers_of_all_fields.main.body.getD i (.Pass ⟨0, 0, 0, 0⟩)
abbrev s_is_integer : Stmt := topS 1
abbrev N_is_integer : List Str := ["value"]
theorem sc_is_integer : FnScope N_is_integer ["value"] (defScope s_is_integer) := ⟨rfl, rfl, rfl, by decide +kernel, rfl, by decide +kernel, by decide +kernel⟩
abbrev s_is_number : Stmt := topS 2
abbrev N_is_number : List Str := ["value"]
theorem sc_is_number : FnScope N_is_number ["value"] (defScope s_is_number) := ⟨rfl, rfl, rfl, by decide +kernel, rfl, by decide +kernel, by decide +kernel⟩
abbrev s_is_tuple : Stmt := topS 3
abbrev N_is_tuple : List Str := ["value", "many"]
theorem sc_is_tuple : FnScope N_is_tuple ["value", "many"] (defScope s_is_tuple) := ⟨rfl, rfl, rfl, by decide +kernel, rfl, by decide +kernel, by decide +kernel⟩
abbrev s_is_prime : Stmt := topS 6
abbrev N_is_prime : List Str := ["number", "other"]
theorem sc_is_prime : FnScope N_is_prime ["number"] (defScope s_is_prime) := ⟨rfl, rfl, rfl, by decide +kernel, rfl, by decide +kernel, by decide +kernel⟩
abbrev s_is_field : Stmt := topS 7
abbrev N_is_field : List Str := ["value"]
theorem sc_is_field : FnScope N_is_field ["value"] (defScope s_is_field) := ⟨rfl, rfl, rfl, by decide +kernel, rfl, by decide +kernel, by decide +kernel⟩
abbrev s_common_divisor : Stmt := topS 8
abbrev N_common_divisor : List Str := ["one", "other"]
theorem sc_common_divisor : FnScope N_common_divisor ["one", "other"] (defScope s_common_divisor) := ⟨rfl, rfl, rfl, by decide +kernel, rfl, by decide +kernel, by decide +kernel⟩
abbrev s_fraction : Stmt := topS 9
abbrev N_fraction : List Str := ["top", "bottom", "both"]
theorem sc_fraction : FnScope N_fraction ["top", "bottom"] (defScope s_fraction) := ⟨rfl, rfl, rfl, by decide +kernel, rfl, by decide +kernel, by decide +kernel⟩
abbrev s_is_fraction : Stmt := topS 10
abbrev N_is_fraction : List Str := ["value"]
theorem sc_is_fraction : FnScope N_is_fraction ["value"] (defScope s_is_fraction) := ⟨rfl, rfl, rfl, by decide +kernel, rfl, by decide +kernel, by decide +kernel⟩
abbrev s_is_number_of : Stmt := topS 11
abbrev N_is_number_of : List Str := ["field", "value"]
theorem sc_is_number_of : FnScope N_is_number_of ["field", "value"] (defScope s_is_number_of) := ⟨rfl, rfl, rfl, by decide +kernel, rfl, by decide +kernel, by decide +kernel⟩
abbrev s_zero_of : Stmt := topS 12
abbrev N_zero_of : List Str := ["field"]
theorem sc_zero_of : FnScope N_zero_of ["field"] (defScope s_zero_of) := ⟨rfl, rfl, rfl, by decide +kernel, rfl, by decide +kernel, by decide +kernel⟩
abbrev s_one_of : Stmt := topS 13
abbrev N_one_of : List Str := ["field"]
theorem sc_one_of : FnScope N_one_of ["field"] (defScope s_one_of) := ⟨rfl, rfl, rfl, by decide +kernel, rfl, by decide +kernel, by decide +kernel⟩
abbrev s_plus : Stmt := topS 14
abbrev N_plus : List Str := ["field", "one", "other"]
theorem sc_plus : FnScope N_plus ["field", "one", "other"] (defScope s_plus) := ⟨rfl, rfl, rfl, by decide +kernel, rfl, by decide +kernel, by decide +kernel⟩
abbrev s_opposite : Stmt := topS 15
abbrev N_opposite : List Str := ["field", "number"]
theorem sc_opposite : FnScope N_opposite ["field", "number"] (defScope s_opposite) := ⟨rfl, rfl, rfl, by decide +kernel, rfl, by decide +kernel, by decide +kernel⟩
abbrev s_times : Stmt := topS 16
abbrev N_times : List Str := ["field", "one", "other"]
theorem sc_times : FnScope N_times ["field", "one", "other"] (defScope s_times) := ⟨rfl, rfl, rfl, by decide +kernel, rfl, by decide +kernel, by decide +kernel⟩
abbrev s_power_of : Stmt := topS 17
abbrev N_power_of : List Str := ["field", "number", "many", "found"]
theorem sc_power_of : FnScope N_power_of ["field", "number", "many"] (defScope s_power_of) := ⟨rfl, rfl, rfl, by decide +kernel, rfl, by decide +kernel, by decide +kernel⟩
abbrev s_inverse : Stmt := topS 18
abbrev N_inverse : List Str := ["field", "number"]
theorem sc_inverse : FnScope N_inverse ["field", "number"] (defScope s_inverse) := ⟨rfl, rfl, rfl, by decide +kernel, rfl, by decide +kernel, by decide +kernel⟩
abbrev s_number_text : Stmt := topS 19
abbrev N_number_text : List Str := ["field", "number"]
theorem sc_number_text : FnScope N_number_text ["field", "number"] (defScope s_number_text) := ⟨rfl, rfl, rfl, by decide +kernel, rfl, by decide +kernel, by decide +kernel⟩
abbrev s_law_deal : Stmt := topS 21
abbrev N_law_deal : List Str := ["script", "salt", "most", "cells", "mix", "cell"]
theorem sc_law_deal : FnScope N_law_deal ["script", "salt"] (defScope s_law_deal) := ⟨rfl, rfl, rfl, by decide +kernel, rfl, by decide +kernel, by decide +kernel⟩
abbrev s_law_any : Stmt := topS 22
abbrev N_law_any : List Str := ["deal", "bound", "rest"]
theorem sc_law_any : FnScope N_law_any ["deal", "bound"] (defScope s_law_any) := ⟨rfl, rfl, rfl, by decide +kernel, rfl, by decide +kernel, by decide +kernel⟩
abbrev s_law_of : Stmt := topS 23
abbrev N_law_of : List Str := ["deal", "some"]
theorem sc_law_of : FnScope N_law_of ["deal", "some"] (defScope s_law_of) := ⟨rfl, rfl, rfl, by decide +kernel, rfl, by decide +kernel, by decide +kernel⟩
abbrev s_law_is_kind : Stmt := topS 24
abbrev N_law_is_kind : List Str := ["told", "due"]
theorem sc_law_is_kind : FnScope N_law_is_kind ["told", "due"] (defScope s_law_is_kind) := ⟨rfl, rfl, rfl, by decide +kernel, rfl, by decide +kernel, by decide +kernel⟩
abbrev s_law_same : Stmt := topS 25
abbrev N_law_same : List Str := ["told", "due", "todo", "one", "other", "at"]
theorem sc_law_same : FnScope N_law_same ["told", "due"] (defScope s_law_same) := ⟨rfl, rfl, rfl, by decide +kernel, rfl, by decide +kernel, by decide +kernel⟩
abbrev s_law_all : Stmt := topS 26
abbrev N_law_all : List Str := ["pairs", "told", "due"]
theorem sc_law_all : FnScope N_law_all ["pairs"] (defScope s_law_all) := ⟨rfl, rfl, rfl, by decide +kernel, rfl, by decide +kernel, by decide +kernel⟩
abbrev s_law_shared : Stmt := topS 27
abbrev N_law_shared : List Str := ["one", "other"]
theorem sc_law_shared : FnScope N_law_shared ["one", "other"] (defScope s_law_shared) := ⟨rfl, rfl, rfl, by decide +kernel, rfl, by decide +kernel, by decide +kernel⟩
abbrev s_law_number : Stmt := topS 28
abbrev N_law_number : List Str := ["field", "top", "bottom", "part", "found", "number"]
theorem sc_law_number : FnScope N_law_number ["field", "top", "bottom"] (defScope s_law_number) := ⟨rfl, rfl, rfl, by decide +kernel, rfl, by decide +kernel, by decide +kernel⟩
abbrev s_law_plus : Stmt := topS 29
abbrev N_law_plus : List Str := ["field", "one", "other"]
theorem sc_law_plus : FnScope N_law_plus ["field", "one", "other"] (defScope s_law_plus) := ⟨rfl, rfl, rfl, by decide +kernel, rfl, by decide +kernel, by decide +kernel⟩
abbrev s_law_by : Stmt := topS 30
abbrev N_law_by : List Str := ["field", "one", "other"]
theorem sc_law_by : FnScope N_law_by ["field", "one", "other"] (defScope s_law_by) := ⟨rfl, rfl, rfl, by decide +kernel, rfl, by decide +kernel, by decide +kernel⟩
abbrev s_law_less : Stmt := topS 31
abbrev N_law_less : List Str := ["field", "one", "other"]
theorem sc_law_less : FnScope N_law_less ["field", "one", "other"] (defScope s_law_less) := ⟨rfl, rfl, rfl, by decide +kernel, rfl, by decide +kernel, by decide +kernel⟩
abbrev s_law_over : Stmt := topS 32
abbrev N_law_over : List Str := ["field", "one", "other"]
theorem sc_law_over : FnScope N_law_over ["field", "one", "other"] (defScope s_law_over) := ⟨rfl, rfl, rfl, by decide +kernel, rfl, by decide +kernel, by decide +kernel⟩
abbrev s_law_zero : Stmt := topS 33
abbrev N_law_zero : List Str := ["field"]
theorem sc_law_zero : FnScope N_law_zero ["field"] (defScope s_law_zero) := ⟨rfl, rfl, rfl, by decide +kernel, rfl, by decide +kernel, by decide +kernel⟩
abbrev s_law_one : Stmt := topS 34
abbrev N_law_one : List Str := ["field"]
theorem sc_law_one : FnScope N_law_one ["field"] (defScope s_law_one) := ⟨rfl, rfl, rfl, by decide +kernel, rfl, by decide +kernel, by decide +kernel⟩
abbrev s_law_primes : Stmt := topS 35
abbrev N_law_primes : List Str := ["left", "found", "number"]
theorem sc_law_primes : FnScope N_law_primes [] (defScope s_law_primes) := ⟨rfl, rfl, rfl, by decide +kernel, rfl, by decide +kernel, by decide +kernel⟩
abbrev s_law_great : Stmt := topS 36
abbrev N_law_great : List Str := ["deal", "most"]
theorem sc_law_great : FnScope N_law_great ["deal"] (defScope s_law_great) := ⟨rfl, rfl, rfl, by decide +kernel, rfl, by decide +kernel, by decide +kernel⟩
abbrev s_law_text : Stmt := topS 37
abbrev N_law_text : List Str := ["field", "number"]
theorem sc_law_text : FnScope N_law_text ["field", "number"] (defScope s_law_text) := ⟨rfl, rfl, rfl, by decide +kernel, rfl, by decide +kernel, by decide +kernel⟩
abbrev s_law_pairs : Stmt := topS 38
abbrev N_law_pairs : List Str := ["field", "one", "other", "third", "is_named", "pairs", "undone"]
theorem sc_law_pairs : FnScope N_law_pairs ["field", "one", "other", "third", "is_named"] (defScope s_law_pairs) := ⟨rfl, rfl, rfl, by decide +kernel, rfl, by decide +kernel, by decide +kernel⟩
abbrev s_law : Stmt := topS 39
abbrev N_law : List Str := ["script", "deal", "pairs", "primes", "value", "turn", "field", "one", "other", "third", "top", "bottom", "some", "again"]
theorem sc_law : FnScope N_law ["script"] (defScope s_law) := ⟨rfl, rfl, rfl, by decide +kernel, rfl, by decide +kernel, by decide +kernel⟩

structure Txt (mg : Str → Option Value) : Prop where
  len : mg "len" = none
  abs : mg "abs" = none
  int : mg "int" = none
  str : mg "str" = none
  range : mg "range" = none
  list : mg "list" = none
  isinstance : mg "isinstance" = none
  tuple : mg "tuple" = none
  dict : mg "dict" = none
  bool : mg "bool" = none
  MOST_PRIME : ∃ t, mg "MOST_PRIME" = some (.int 100 t)

section
variable {P : Program} {w : World} {K : PySem.W.Frag} {mg : Str → Option Value} {base : Heap} (T : Txt mg)

/-! is_integer, is_number, is_tuple -/
def isI : D → Bool | .int _ => true | _ => false
def isN : D → Bool | .int i => decide (0 ≤ i) | _ => false
def isT (n : Int) : D → Bool | .tup ds => decide ((ds.length : Int) = n) | _ => false
def R_is_integer (ds : List D) (d : D) : Prop := ∃ x, ds = [x] ∧ d = .bl (isI x)
def R_is_number (ds : List D) (d : D) : Prop := ∃ x, ds = [x] ∧ d = .bl (isN x)
def R_is_tuple (ds : List D) (d : D) : Prop := ∃ x n, ds = [x, .int n] ∧ d = .bl (isT n x)
include T
theorem d_is_integer (raw : Raw K mg "is_integer" s_is_integer ["value"]) : Def P w K mg base 1 "is_integer" s_is_integer ["value"] (spP K R_is_integer) := by
  refine raw.d fun f fd Fn => fnP Fn sc_is_integer (fun ds d ⟨x, h, _⟩ => by rw [h]; rfl) fun cdv A outer s H E ds d hr hR Fm hF => ?_
  obtain ⟨x, rfl, rfl⟩ := hR
  cases x with
  | int i => exact xb_one (xs_ret (xe_andT (xe_isi (xe_var 0 rfl) boot_int (kit_int _) T.int T.isinstance) (xe_and1 (XE.to (xe_not (xe_isi (xe_var 0 rfl) boot_bool (kit_bool _) T.bool T.isinstance)) rfl))))
  | bl i => exact xb_one (xs_ret (xe_andT (xe_isi (xe_var 0 rfl) boot_int (kit_int _) T.int T.isinstance) (xe_and1 (XE.to (xe_not (xe_isi (xe_var 0 rfl) boot_bool (kit_bool _) T.bool T.isinstance)) rfl))))
  | _ => exact xb_one (xs_ret (xe_andF (xe_isi (xe_var 0 rfl) boot_int (kit_int _) T.int T.isinstance)))
theorem d_is_number (raw : Raw K mg "is_number" s_is_number ["value"]) (D1 : Def P w K mg base 1 "is_integer" s_is_integer ["value"] (spP K R_is_integer)) : Def P w K mg base 2 "is_number" s_is_number ["value"] (spP K R_is_number) := by
  refine raw.d fun f fd Fn => fnP Fn sc_is_number (fun ds d ⟨x, h, _⟩ => by rw [h]; rfl) fun cdv A outer s H E ds d hr hR Fm hF => ?_
  obtain ⟨x, rfl, rfl⟩ := hR
  cases x with
  | int i => exact xb_one (xs_ret (xe_andT (xe_call D1 hr (xd_cons (xe_var 0 rfl) xd_nil) ⟨_, rfl, rfl⟩) (xe_and1 (xe_ge (xe_var 0 rfl) xe_int))))
  | _ => exact xb_one (xs_ret (xe_andF (xe_call D1 hr (xd_cons (xe_var 0 rfl) xd_nil) ⟨_, rfl, rfl⟩)))
theorem d_is_tuple (raw : Raw K mg "is_tuple" s_is_tuple ["value", "many"]) : Def P w K mg base 1 "is_tuple" s_is_tuple ["value", "many"] (spP K R_is_tuple) := by
  refine raw.d fun f fd Fn => fnP Fn sc_is_tuple (fun ds d ⟨x, n, h, _⟩ => by rw [h]; rfl) fun cdv A outer s H E ds d hr hR Fm hF => ?_
  obtain ⟨x, n, rfl, rfl⟩ := hR
  cases x with
  | tup xs => exact xb_one (xs_ret (xe_andT (xe_isi (xe_var 0 rfl) boot_tuple (kit_tuple _) T.tuple T.isinstance) (xe_and1 (xe_eqI (xe_len (xe_var 0 rfl) rfl T.len) (xe_var 1 rfl)))))
  | _ => exact xb_one (xs_ret (xe_andF (xe_isi (xe_var 0 rfl) boot_tuple (kit_tuple _) T.tuple T.isinstance)))
omit T
/-! is_prime, is_field -/
def R_is_prime (ds : List D) (d : D) : Prop := ∃ n : Int, ds = [.int n] ∧ 0 < n ∧ n < 100 ∧ d = .bl (decide (n.toNat ∈ P100))
/-- no divisor from o on, below the root -/
def noDiv (n : Nat) : Nat → Nat → Bool
  | 0, _ => true
  | fuel + 1, o => if o * o ≤ n then (if n % o = 0 then false else noDiv n fuel (o + 1)) else true
theorem noDiv_ok : ∀ n < 100, 2 ≤ n → noDiv n 20 2 = decide (n ∈ P100) := by decide +kernel
theorem d_is_prime (raw : Raw K mg "is_prime" s_is_prime ["number"]) : Def P w K mg base 1 "is_prime" s_is_prime ["number"] (spP K R_is_prime) := by
  refine raw.d fun f fd Fn => fnP Fn sc_is_prime (fun ds d ⟨n, h, _⟩ => by rw [h]; rfl) fun cdv A outer s H E ds d hr hR Fm hF => ?_
  obtain ⟨n, rfl, h0, h1, rfl⟩ := hR
  obtain ⟨m, rfl⟩ := Int.eq_ofNat_of_zero_le (Int.le_of_lt h0)
  rw [Int.toNat_natCast]
  have hm : m < 100 := by omega
  refine xb_ifS (xt_lt (xe_var 0 rfl) xe_int) (fun h => ?_) (fun h => ?_)
  · refine xb_one (xs_ret xe_bl ?_)
    have : m < 2 := by have := of_decide_eq_true h; omega
    have h3 : decide (m ∈ P100) = false := decide_eq_false fun q => by have := (P100_two m q).1; omega
    rw [h3]
  · have h2 : 2 ≤ m := by have := of_decide_eq_false h; omega
    rw [← noDiv_ok m hm h2]
    refine xb_cons (xs_set 1 xe_int sc_is_prime.nd) ?_
    generalize hb : noDiv m 20 2 = b
    refine xb_while (fun fuel S g => ∃ o : Nat, (2 ≤ o ∧ o < 23) ∧ 22 ≤ o + fuel ∧ noDiv m fuel o = b ∧ S = [.v (.int m), .v (.int o)] ∧ g = ([], 0)) 20 ⟨2, ⟨by decide, by decide⟩, by decide, hb, rfl, rfl⟩ (fun fuel S g hI => ?_)
    obtain ⟨o, ⟨ho, hO⟩, hf, hd, rfl, rfl⟩ := hI
    by_cases hoo : o * o ≤ m
    · have hlt : o < 22 := by
        rcases Nat.lt_or_ge o 22 with q | q
        · exact q
        · have := Nat.mul_le_mul q q; omega
      obtain ⟨fuel, rfl⟩ : ∃ k, fuel = k + 1 := ⟨fuel - 1, by omega⟩
      refine .go ((xt_le (xe_mul (xe_var 1 rfl) (xe_var 1 rfl) (wide_mul (a := 20) (b := 20) (by omega) (by omega) (by decide) (by decide) (by decide))) (xe_var 0 rfl)).to (decide_eq_true (by omega))) ?_
      unfold noDiv at hd
      rw [if_pos hoo] at hd
      by_cases hz : m % o = 0
      · rw [if_pos hz] at hd
        refine .ret (xb_ifT ((xt_eqI (xe_mod (xe_var 0 rfl) (xe_var 1 rfl) (by omega)) xe_int).to (decide_eq_true (by omega))) (xb_one (xs_ret xe_bl (by rw [← hd])))) ⟨_, _, rfl⟩
      · rw [if_neg hz] at hd
        refine .next (xb_ifF ((xt_eqI (xe_mod (xe_var 0 rfl) (xe_var 1 rfl) (by omega)) xe_int).to (decide_eq_false (by omega))) (xb_one (xs_augI 1 ip_add rfl xe_int sc_is_prime.nd))) ⟨fuel, Nat.lt_succ_self _, o + 1, ⟨by omega, by omega⟩, by omega, hd, rfl, rfl⟩
    · refine .stop ((xt_le (xe_mul (xe_var 1 rfl) (xe_var 1 rfl) ?_) (xe_var 0 rfl)).to (decide_eq_false (by omega))) (xb_one (xs_ret xe_bl ?_))
      · rcases Nat.lt_or_ge o 1000 with q | q
        · exact wide_mul (a := 20) (b := 20) (by omega) (by omega) (by decide) (by decide) (by decide)
        · exact absurd hO (by omega)
      · cases fuel with
        | zero => rw [← hd]; rfl
        | succ fuel => unfold noDiv at hd; rw [if_neg hoo] at hd; rw [← hd]
end
end Z
namespace Z
open PySem PySem.Spec PyProof.Rows L2
section
variable {P : Program} {w : World} {K : PySem.W.Frag} {mg : Str → Option Value} {base : Heap} (T : Txt mg)
/-! is_field -/
def isField : D → Bool | .int i => decide (i = 0) || (decide (0 < i ∧ i < 100) && decide (i.toNat ∈ P100)) | _ => false
def R_is_field (ds : List D) (d : D) : Prop := ∃ x, ds = [x] ∧ d = .bl (isField x)
theorem d_is_field (T : Txt mg) (raw : Raw K mg "is_field" s_is_field ["value"]) (D1 : Def P w K mg base 1 "is_integer" s_is_integer ["value"] (spP K R_is_integer)) (D2 : Def P w K mg base 1 "is_prime" s_is_prime ["number"] (spP K R_is_prime)) : Def P w K mg base 2 "is_field" s_is_field ["value"] (spP K R_is_field) := by
  refine raw.d fun f fd Fn => fnP Fn sc_is_field (fun ds d ⟨x, h, _⟩ => by rw [h] <;> rfl) fun cdv A outer s H E ds d hr hR Fm hF => ?_
  obtain ⟨x, rfl, rfl⟩ := hR
  obtain ⟨t, hmp⟩ := T.MOST_PRIME
  cases x with
  | int i =>
    refine xb_one (xs_ret (xe_andT (xe_call D1 hr (xd_cons (xe_var 0 rfl) xd_nil) ⟨_, rfl, rfl⟩) (xe_and1 ?_)))
    by_cases h0 : i = 0
    · exact XE.to (xe_orT ((xe_eqI (xe_var 0 rfl) xe_int).to (by rw [decide_eq_true h0]))) (by subst h0; rfl)
    · refine xe_orF ((xe_eqI (xe_var 0 rfl) xe_int).to (by rw [decide_eq_false h0])) (xe_and1 ?_)
      by_cases h1 : 0 < i ∧ i < 100
      · refine XE.to (xe_andT ((xe_ltlt xe_int (xe_var 0 rfl) (xe_globI hmp ⟨_, rfl⟩)).to (by rw [decide_eq_true h1.1, decide_eq_true h1.2] <;> rfl)) (xe_and1 (xe_call D2 hr (xd_cons (xe_var 0 rfl) xd_nil) ⟨i, rfl, h1.1, h1.2, rfl⟩))) ?_
        show D.bl _ = D.bl (decide (i = 0) || (decide (0 < i ∧ i < 100) && decide (i.toNat ∈ P100)))
        rw [decide_eq_false h0, decide_eq_true h1]
        simp
      · refine XE.to (xe_andF ((xe_ltlt xe_int (xe_var 0 rfl) (xe_globI hmp ⟨_, rfl⟩)).to ?_)) ?_
        · rw [← Bool.decide_and, decide_eq_false h1]
        · show D.bl _ = D.bl (decide (i = 0) || (decide (0 < i ∧ i < 100) && decide (i.toNat ∈ P100)))
          rw [decide_eq_false h0, decide_eq_false h1]
          simp
  | _ => exact xb_one (xs_ret (xe_andF (xe_call D1 hr (xd_cons (xe_var 0 rfl) xd_nil) ⟨_, rfl, rfl⟩)))
/-! common_divisor, fraction -/
def R_common_divisor (ds : List D) (d : D) : Prop := ∃ a b : Int, ds = [.int a, .int b] ∧ d = .int (Int.gcd a b : Nat)
theorem d_common_divisor (T : Txt mg) (raw : Raw K mg "common_divisor" s_common_divisor ["one", "other"]) : Def P w K mg base 1 "common_divisor" s_common_divisor ["one", "other"] (spP K R_common_divisor) := by
  refine raw.d fun f fd Fn => fnP Fn sc_common_divisor (fun ds d ⟨a, b, h, _⟩ => by rw [h] <;> rfl) fun cdv A outer s H E ds d hr hR Fm hF => ?_
  obtain ⟨a, b, rfl, rfl⟩ := hR
  refine xb_cons (xs_par 0 1 (xd_cons (xe_abs (xe_var 0 rfl) T.abs) (xd_cons (xe_abs (xe_var 1 rfl) T.abs) xd_nil)) sc_common_divisor.nd) ?_
  refine xb_while (fun m S g => ∃ x : Nat, S = [.v (.int x), .v (.int m)] ∧ g = ([], 0) ∧ Nat.gcd x m = Int.gcd a b) b.natAbs ⟨a.natAbs, rfl, rfl, rfl⟩ (fun m S g hI => ?_)
  obtain ⟨x, rfl, rfl, hg⟩ := hI
  by_cases hm : m = 0
  · subst hm
    refine .stop ((xt_neI (xe_var 1 rfl) xe_int).to rfl) (xb_one (xs_ret (XE.to (xe_var 0 rfl) ?_)))
    rw [← hg, Nat.gcd_zero_right]
  · refine .go ((xt_neI (xe_var 1 rfl) xe_int).to (by rw [decide_eq_false (by omega)] <;> rfl)) (.next (xb_one (xs_par 0 1 (xd_cons (xe_var 1 rfl) (xd_cons (xe_mod (xe_var 0 rfl) (xe_var 1 rfl) (by omega)) xd_nil)) sc_common_divisor.nd)) ⟨x % m, Nat.mod_lt _ (by omega), m, ?_, rfl, ?_⟩)
    · show [Sl.v (.int m), Sl.v (.int ((x : Int) % (m : Int)))] = _
      rw [← Int.natCast_emod]
    · rw [← hg, Nat.gcd_comm x m, Nat.gcd_rec m x, Nat.gcd_comm]
def R_fraction (ds : List D) (d : D) : Prop := ∃ (t : Int) (b : Nat), ds = [.int t, .int b] ∧ 0 < b ∧ b < 2 ^ 8000 ∧ d = fracD (mkRat t b)
theorem cdivW {j : Nat} (h : 0 < j) (h2 : j < 2 ^ 8000) {i : Int} : CDivW i (j : Int) := wide_div (b := 8000) (by omega) (by rw [Int.natAbs_natCast]; exact h2) (by decide) (by decide)
theorem d_fraction (raw : Raw K mg "fraction" s_fraction ["top", "bottom"]) (D1 : Def P w K mg base 1 "common_divisor" s_common_divisor ["one", "other"] (spP K R_common_divisor)) : Def P w K mg base 2 "fraction" s_fraction ["top", "bottom"] (spP K R_fraction) := by
  refine raw.d fun f fd Fn => fnP Fn sc_fraction (fun ds d ⟨a, b, h, _⟩ => by rw [h] <;> rfl) fun cdv A outer s H E ds d hr hR Fm hF => ?_
  obtain ⟨t, b, rfl, hb, hb2, rfl⟩ := hR
  by_cases ht : t = 0
  · subst ht
    refine xb_ifT ((xt_eqI (xe_var 0 rfl) xe_int).to rfl) (xb_one (xs_ret (XE.to (xe_tup (xd_cons xe_int (xd_cons xe_int xd_nil))) ?_)))
    rw [Rat.zero_mkRat]
    rfl
  · refine xb_ifF ((xt_eqI (xe_var 0 rfl) xe_int).to (decide_eq_false ht)) ?_
    have hg : Int.gcd t b = Nat.gcd b t.natAbs := by rw [Int.gcd, Int.natAbs_natCast, Nat.gcd_comm]
    have hgp : 0 < Int.gcd t b := by rw [hg]; exact Nat.gcd_pos_of_pos_left _ hb
    have hgl : Int.gcd t b < 2 ^ 8000 := by rw [hg]; exact Nat.lt_of_le_of_lt (Nat.gcd_le_left _ hb) hb2
    refine xb_cons (xs_set 2 (xe_call D1 hr (xd_cons (xe_var 0 rfl) (xd_cons (xe_var 1 rfl) xd_nil)) ⟨_, _, rfl, rfl⟩) sc_fraction.nd) ?_
    refine xb_one (xs_ret (XE.to (xe_tup (xd_cons (xe_div (xe_var 0 rfl) (xe_var 2 rfl) (cdivW hgp hgl)) (xd_cons (xe_div (xe_var 1 rfl) (xe_var 2 rfl) (cdivW hgp hgl)) xd_nil))) ?_))
    show D.tup [.int (t / (Int.gcd t b : Nat)), .int ((b : Int) / (Int.gcd t b : Nat))] = D.tup [.int (mkRat t b).num, .int ((mkRat t b).den : Nat)]
    rw [Rat.num_mkRat, Rat.den_mkRat, if_neg (by omega), if_neg (by omega), hg, Int.natCast_ediv]
/-! is_fraction, is_number_of -/
def isFr : D → Bool | .tup [.int a, .int b] => decide (1 ≤ b) && decide (Int.gcd a b = 1) | _ => false
def R_is_fraction (ds : List D) (d : D) : Prop := ∃ x, ds = [x] ∧ d = .bl (isFr x)
theorem d_is_fraction (raw : Raw K mg "is_fraction" s_is_fraction ["value"]) (D1 : Def P w K mg base 1 "is_integer" s_is_integer ["value"] (spP K R_is_integer)) (D2 : Def P w K mg base 1 "is_tuple" s_is_tuple ["value", "many"] (spP K R_is_tuple)) (D3 : Def P w K mg base 1 "common_divisor" s_common_divisor ["one", "other"] (spP K R_common_divisor)) :
    Def P w K mg base 2 "is_fraction" s_is_fraction ["value"] (spP K R_is_fraction) := by
  refine raw.d fun f fd Fn => fnP Fn sc_is_fraction (fun ds d ⟨x, h, _⟩ => by rw [h] <;> rfl) fun cdv A outer s H E ds d hr hR Fm hF => ?_
  obtain ⟨x, rfl, rfl⟩ := hR
  -- no tuple of two
  have no : isT 2 x = false → isFr x = false := fun h => by
    cases x with
    | tup xs =>
      rcases xs with _ | ⟨a, _ | ⟨b, _ | ⟨c, r⟩⟩⟩
      · rfl
      · cases a <;> rfl
      · cases h
      · cases a <;> (cases b <;> rfl)
    | _ => rfl
  cases ht : isT 2 x with
  | false =>
    refine xb_ifT (XW.tst (xw_orT (XT.to (xt_not (xt_val (xe_call D2 hr (xd_cons (xe_var 0 rfl) (xd_cons xe_int xd_nil)) ⟨_, _, rfl, rfl⟩))) (by rw [ht] <;> rfl)))) (xb_one (xs_ret xe_bl (by rw [no ht])))
  | true =>
    obtain ⟨a, b, rfl⟩ : ∃ a b, x = .tup [a, b] := by
      cases x with
      | tup xs =>
        rcases xs with _ | ⟨a, _ | ⟨b, _ | ⟨c, r⟩⟩⟩
        · cases ht
        · cases ht
        · exact ⟨a, b, rfl⟩
        · have ht' : decide (((a :: b :: c :: r).length : Int) = 2) = true := ht
          have := of_decide_eq_true ht'
          rw [List.length_cons, List.length_cons, List.length_cons] at this
          omega
      | _ => cases ht
    cases ha : isI a with
    | false =>
      refine xb_ifT (XW.tst (xw_orF (XT.to (xt_not (xt_val (xe_call D2 hr (xd_cons (xe_var 0 rfl) (xd_cons xe_int xd_nil)) ⟨_, _, rfl, rfl⟩))) rfl) (xw_orT (XT.to (xt_not (xt_val (xe_call D1 hr (xd_cons (xe_ix (xe_var 0 rfl) xe_int rfl) xd_nil) ⟨_, rfl, rfl⟩))) (by rw [ha] <;> rfl))))) (xb_one (xs_ret xe_bl ?_))
      cases a with
      | int i => cases ha
      | _ => rfl
    | true =>
      cases hb : isI b with
      | false =>
        refine xb_ifT (XW.tst (xw_orF (XT.to (xt_not (xt_val (xe_call D2 hr (xd_cons (xe_var 0 rfl) (xd_cons xe_int xd_nil)) ⟨_, _, rfl, rfl⟩))) rfl) (xw_orF (XT.to (xt_not (xt_val (xe_call D1 hr (xd_cons (xe_ix (xe_var 0 rfl) xe_int rfl) xd_nil) ⟨_, rfl, rfl⟩))) (by rw [ha] <;> rfl)) (xw_or1 (XT.to (xt_not (xt_val (xe_call D1 hr (xd_cons (xe_ix (xe_var 0 rfl) xe_int rfl) xd_nil) ⟨_, rfl, rfl⟩))) (by rw [hb] <;> rfl)))))) (xb_one (xs_ret xe_bl ?_))
        cases a with
        | int i =>
          cases b with
          | int j => cases hb
          | _ => rfl
        | _ => cases ha
      | true =>
        cases a with
        | int i =>
          cases b with
          | int j =>
            refine xb_ifF (XW.tst (xw_orF (XT.to (xt_not (xt_val (xe_call D2 hr (xd_cons (xe_var 0 rfl) (xd_cons xe_int xd_nil)) ⟨_, _, rfl, rfl⟩))) rfl) (xw_orF (XT.to (xt_not (xt_val (xe_call D1 hr (xd_cons (xe_ix (xe_var 0 rfl) xe_int rfl) xd_nil) ⟨_, rfl, rfl⟩))) rfl) (xw_or1 (XT.to (xt_not (xt_val (xe_call D1 hr (xd_cons (xe_ix (xe_var 0 rfl) xe_int rfl) xd_nil) ⟨_, rfl, rfl⟩))) rfl))))) ?_
            refine xb_one (xs_ret (XE.to (xe_and (xe_ge (xe_ix (xe_var 0 rfl) xe_int rfl) xe_int) fun h => (xe_and1 (xe_eqI (xe_call D3 hr (xd_cons (xe_ix (xe_var 0 rfl) xe_int rfl) (xd_cons (xe_ix (xe_var 0 rfl) xe_int rfl) xd_nil)) ⟨_, _, rfl, rfl⟩) xe_int))) ?_))
            show D.bl (decide (1 ≤ j) && decide (((Int.gcd i j : Nat) : Int) = 1)) = D.bl (decide (1 ≤ j) && decide (Int.gcd i j = 1))
            have e : decide (((Int.gcd i j : Nat) : Int) = 1) = decide (Int.gcd i j = 1) := decide_eq_decide.mpr ⟨fun h => by omega, fun h => by omega⟩
            rw [e]
          | _ => cases hb
        | _ => cases ha
namespace FK
def isNum : FK → D → Bool
  | .rat, x => isFr x
  | .mod p _, .int i => decide (0 ≤ i) && decide (i < p)
  | .mod _ _, _ => false
theorem isNum_rep (k : FK) (a : k.α) : k.isNum (k.rep a) = true := by
  cases k with
  | rat =>
    show (decide (1 ≤ ((a : Rat).den : Int)) && decide (Int.gcd (a : Rat).num ((a : Rat).den : Nat) = 1)) = true
    rw [decide_eq_true (by have := Rat.den_pos a; omega), decide_eq_true (by rw [Int.gcd, Int.natAbs_natCast]; exact a.reduced)]
    rfl
  | mod p h =>
    show (decide (0 ≤ ((a.val : Nat) : Int)) && decide (((a.val : Nat) : Int) < p)) = true
    rw [decide_eq_true (by omega), decide_eq_true (by have := a.isLt; omega)]
    rfl
end FK
def R_is_number_of (ds : List D) (d : D) : Prop := ∃ (k : FK) (x : D), ds = [.int k.f, x] ∧ d = .bl (k.isNum x)
theorem f_ne {p : Nat} (h : p ∈ P100) : (FK.mod p h).f ≠ 0 := by have := FK.pos h; show ((p : Nat) : Int) ≠ 0; omega
theorem d_is_number_of (raw : Raw K mg "is_number_of" s_is_number_of ["field", "value"]) (D1 : Def P w K mg base 2 "is_number" s_is_number ["value"] (spP K R_is_number)) (D2 : Def P w K mg base 2 "is_fraction" s_is_fraction ["value"] (spP K R_is_fraction)) :
    Def P w K mg base 3 "is_number_of" s_is_number_of ["field", "value"] (spP K R_is_number_of) := by
  refine raw.d fun f fd Fn => fnP Fn sc_is_number_of (fun ds d ⟨k, x, h, _⟩ => by rw [h] <;> rfl) fun cdv A outer s H E ds d hr hR Fm hF => ?_
  obtain ⟨k, x, rfl, rfl⟩ := hR
  cases k with
  | rat => exact xb_ifT ((xt_eqI (xe_var 0 rfl) xe_int).to rfl) (xb_one (xs_ret (xe_call D2 hr (xd_cons (xe_var 1 rfl) xd_nil) ⟨_, rfl, rfl⟩)))
  | mod p h =>
    refine xb_ifF ((xt_eqI (xe_var 0 rfl) xe_int).to (decide_eq_false (f_ne h))) ?_
    cases x with
    | int i =>
      exact xb_one (xs_ret (xe_and (xe_call D1 hr (xd_cons (xe_var 1 rfl) xd_nil) ⟨_, rfl, rfl⟩) fun h => (xe_and1 (xe_lt (xe_var 1 rfl) (xe_var 0 rfl)))))
    | _ => exact xb_one (xs_ret (xe_andF (xe_call D1 hr (xd_cons (xe_var 1 rfl) xd_nil) ⟨_, rfl, rfl⟩)))
/-! zero_of, one_of -/
def R_zero_of (ds : List D) (d : D) : Prop := ∃ k : FK, ds = [.int k.f] ∧ d = k.rep k.zero
def R_one_of (ds : List D) (d : D) : Prop := ∃ k : FK, ds = [.int k.f] ∧ d = k.rep k.one
theorem rep_zero {p : Nat} (h : p ∈ P100) : (FK.mod p h).rep (FK.mod p h).zero = .int 0 := by
  show D.int (((0 % p : Nat)) : Int) = _
  rw [Nat.zero_mod]; rfl
theorem rep_one {p : Nat} (h : p ∈ P100) : (FK.mod p h).rep (FK.mod p h).one = .int 1 := by
  have := (P100_two p h).1
  show D.int (((1 % p : Nat)) : Int) = _
  rw [Nat.mod_eq_of_lt (by omega)]; rfl
theorem d_zero_of (raw : Raw K mg "zero_of" s_zero_of ["field"]) : Def P w K mg base 1 "zero_of" s_zero_of ["field"] (spP K R_zero_of) := by
  refine raw.d fun f fd Fn => fnP Fn sc_zero_of (fun ds d ⟨k, h, _⟩ => by rw [h] <;> rfl) fun cdv A outer s H E ds d hr hR Fm hF => ?_
  obtain ⟨k, rfl, rfl⟩ := hR
  cases k with
  | rat => exact xb_one (xs_ret (xe_ifT ((xt_eqI (xe_var 0 rfl) xe_int).to rfl) (xe_tup (xd_cons xe_int (xd_cons xe_int xd_nil)))))
  | mod p h => exact xb_one (xs_ret (xe_ifF ((xt_eqI (xe_var 0 rfl) xe_int).to (decide_eq_false (f_ne h))) (xe_int.to (rep_zero h).symm)))
theorem d_one_of (raw : Raw K mg "one_of" s_one_of ["field"]) : Def P w K mg base 1 "one_of" s_one_of ["field"] (spP K R_one_of) := by
  refine raw.d fun f fd Fn => fnP Fn sc_one_of (fun ds d ⟨k, h, _⟩ => by rw [h] <;> rfl) fun cdv A outer s H E ds d hr hR Fm hF => ?_
  obtain ⟨k, rfl, rfl⟩ := hR
  cases k with
  | rat => exact xb_one (xs_ret (xe_ifT ((xt_eqI (xe_var 0 rfl) xe_int).to rfl) (xe_tup (xd_cons xe_int (xd_cons xe_int xd_nil)))))
  | mod p h => exact xb_one (xs_ret (xe_ifF ((xt_eqI (xe_var 0 rfl) xe_int).to (decide_eq_false (f_ne h))) (xe_int.to (rep_one h).symm)))
/-! plus, times, opposite -/
def R_plus (ds : List D) (d : D) : Prop := ∃ (k : FK) (a b : k.α), ds = [.int k.f, k.rep a, k.rep b] ∧ k.sz 3000 a ∧ k.sz 3000 b ∧ d = k.rep (k.add a b)
def R_times (ds : List D) (d : D) : Prop := ∃ (k : FK) (a b : k.α), ds = [.int k.f, k.rep a, k.rep b] ∧ k.sz 3000 a ∧ k.sz 3000 b ∧ d = k.rep (k.mul a b)
def R_opposite (ds : List D) (d : D) : Prop := ∃ (k : FK) (a : k.α), ds = [.int k.f, k.rep a] ∧ d = k.rep (k.neg a)
theorem m3 {i j : Int} (h1 : i.natAbs < 2 ^ 3000) (h2 : j.natAbs < 2 ^ 3000) : CMulW i j := wide_mul h1 h2 (by decide) (by decide) (by decide)
theorem mSmall {i j : Int} (h1 : i.natAbs < 2 ^ 100) (h2 : j.natAbs < 2 ^ 100) : CMulW i j := wide_mul h1 h2 (by decide) (by decide) (by decide)
theorem small_p {p : Nat} (h : p ∈ P100) (n : Nat) (hn : n < p) : ((n : Nat) : Int).natAbs < 2 ^ 100 := by have := (P100_two p h).2; rw [Int.natAbs_natCast]; omega
theorem d_plus (raw : Raw K mg "plus" s_plus ["field", "one", "other"]) (D1 : Def P w K mg base 2 "fraction" s_fraction ["top", "bottom"] (spP K R_fraction)) : Def P w K mg base 3 "plus" s_plus ["field", "one", "other"] (spP K R_plus) := by
  refine raw.d fun f fd Fn => fnP Fn sc_plus (fun ds d ⟨k, a, b, h, _⟩ => by rw [h] <;> rfl) fun cdv A outer s H E ds d hr hR Fm hF => ?_
  obtain ⟨k, a, b, rfl, ha, hb, rfl⟩ := hR
  cases k with
  | rat =>
    refine xb_ifF ((xt_neI (xe_var 0 rfl) xe_int).to rfl) ?_
    refine xb_one (xs_ret (xe_call D1 hr (xd_cons (xe_add (xe_mul (xe_ix (xe_var 1 rfl) xe_int rfl) (xe_ix (xe_var 2 rfl) xe_int rfl) (m3 ha.1 (by exact hb.2))) (xe_mul (xe_ix (xe_var 2 rfl) xe_int rfl) (xe_ix (xe_var 1 rfl) xe_int rfl) (m3 hb.1 (by exact ha.2))))
      (xd_cons ((xe_mul (xe_ix (xe_var 1 rfl) xe_int rfl) (xe_ix (xe_var 2 rfl) xe_int rfl) (m3 (by exact ha.2) (by exact hb.2))).to (by rw [← Int.natCast_mul])) xd_nil)) ⟨_, _, rfl, Nat.mul_pos (Rat.den_pos a) (Rat.den_pos b), ?_, ?_⟩))
    · exact Nat.lt_of_lt_of_le (FK.nat_mul_lt ha.2 hb.2) (Nat.pow_le_pow_right (by decide) (by decide))
    · show fracD (FK.rat.add a b) = _
      rw [show FK.rat.add a b = _ from Rat.add_def' a b]
  | mod p h =>
    refine xb_ifT ((xt_neI (xe_var 0 rfl) xe_int).to (ne_t (f_ne h))) (xb_one (xs_ret (XE.to (xe_mod (xe_add (xe_var 1 rfl) (xe_var 2 rfl)) (xe_var 0 rfl) (by show (0 : Int) < (p : Nat); have := FK.pos h; omega)) ?_)))
    show D.int ((((a.val : Nat) : Int) + ((b.val : Nat) : Int)) % (p : Nat)) = D.int (((a.val + b.val) % p : Nat) : Int)
    rw [Int.natCast_emod, Int.natCast_add]
theorem d_times (raw : Raw K mg "times" s_times ["field", "one", "other"]) (D1 : Def P w K mg base 2 "fraction" s_fraction ["top", "bottom"] (spP K R_fraction)) : Def P w K mg base 3 "times" s_times ["field", "one", "other"] (spP K R_times) := by
  refine raw.d fun f fd Fn => fnP Fn sc_times (fun ds d ⟨k, a, b, h, _⟩ => by rw [h] <;> rfl) fun cdv A outer s H E ds d hr hR Fm hF => ?_
  obtain ⟨k, a, b, rfl, ha, hb, rfl⟩ := hR
  cases k with
  | rat =>
    refine xb_ifF ((xt_neI (xe_var 0 rfl) xe_int).to rfl) ?_
    refine xb_one (xs_ret (xe_call D1 hr (xd_cons (xe_mul (xe_ix (xe_var 1 rfl) xe_int rfl) (xe_ix (xe_var 2 rfl) xe_int rfl) (m3 ha.1 hb.1))
      (xd_cons ((xe_mul (xe_ix (xe_var 1 rfl) xe_int rfl) (xe_ix (xe_var 2 rfl) xe_int rfl) (m3 (by exact ha.2) (by exact hb.2))).to (by rw [← Int.natCast_mul])) xd_nil)) ⟨_, _, rfl, Nat.mul_pos (Rat.den_pos a) (Rat.den_pos b), ?_, ?_⟩))
    · exact Nat.lt_of_lt_of_le (FK.nat_mul_lt ha.2 hb.2) (Nat.pow_le_pow_right (by decide) (by decide))
    · show fracD (FK.rat.mul a b) = _
      rw [show FK.rat.mul a b = _ from Rat.mul_def' a b]
  | mod p h =>
    refine xb_ifT ((xt_neI (xe_var 0 rfl) xe_int).to (ne_t (f_ne h))) (xb_one (xs_ret (XE.to (xe_mod (xe_mul (xe_var 1 rfl) (xe_var 2 rfl) (mSmall (small_p h a.val a.isLt) (small_p h b.val b.isLt))) (xe_var 0 rfl) (by show (0 : Int) < (p : Nat); have := FK.pos h; omega)) ?_)))
    show D.int ((((a.val : Nat) : Int) * ((b.val : Nat) : Int)) % (p : Nat)) = D.int (((a.val * b.val) % p : Nat) : Int)
    rw [Int.natCast_emod, Int.natCast_mul]
theorem d_opposite (raw : Raw K mg "opposite" s_opposite ["field", "number"]) : Def P w K mg base 1 "opposite" s_opposite ["field", "number"] (spP K R_opposite) := by
  refine raw.d fun f fd Fn => fnP Fn sc_opposite (fun ds d ⟨k, a, h, _⟩ => by rw [h] <;> rfl) fun cdv A outer s H E ds d hr hR Fm hF => ?_
  obtain ⟨k, a, rfl, rfl⟩ := hR
  cases k with
  | rat =>
    exact xb_ifF ((xt_neI (xe_var 0 rfl) xe_int).to rfl) (xb_one (xs_ret (XE.to (xe_tup (xd_cons (xe_neg (xe_ix (xe_var 1 rfl) xe_int rfl)) (xd_cons (xe_ix (xe_var 1 rfl) xe_int rfl) xd_nil))) rfl)))
  | mod p h =>
    refine xb_ifT ((xt_neI (xe_var 0 rfl) xe_int).to (ne_t (f_ne h))) (xb_one (xs_ret (XE.to (xe_mod (xe_neg (xe_var 1 rfl)) (xe_var 0 rfl) (by show (0 : Int) < (p : Nat); have := FK.pos h; omega)) ?_)))
    show D.int ((-((a.val : Nat) : Int)) % (p : Nat)) = D.int (((p - a.val) % p : Nat) : Int)
    have := a.isLt
    rw [Int.natCast_emod, Int.natCast_sub (by omega), Int.sub_eq_add_neg, Int.add_emod, Int.emod_self, Int.zero_add, Int.emod_emod]
/-! power_of, inverse -/
def R_power_of (ds : List D) (d : D) : Prop := ∃ (p : Nat) (h : p ∈ P100) (a n : Nat), a < p ∧ ds = [.int p, .int a, .int n] ∧ d = .int (a ^ n % p : Nat)
theorem d_power_of (raw : Raw K mg "power_of" s_power_of ["field", "number", "many"]) : Def P w K mg base 1 "power_of" s_power_of ["field", "number", "many"] (spP K R_power_of) := by
  refine raw.d fun f fd Fn => fnP Fn sc_power_of (fun ds d ⟨p, h, a, n, _, e, _⟩ => by rw [e] <;> rfl) fun cdv A outer s H E ds d hr hR Fm hF => ?_
  obtain ⟨p, h, a, n, hap, rfl, rfl⟩ := hR
  have hp := (P100_two p h).1
  have hpI : (0 : Int) < (p : Nat) := by omega
  refine xb_cons (xs_set 3 xe_int sc_power_of.nd) ?_
  refine xb_while (fun m S g => ∃ x c : Nat, x < p ∧ c < p ∧ S = [.v (.int p), .v (.int x), .v (.int m), .v (.int c)] ∧ g = ([], 0) ∧ (c * x ^ m) % p = a ^ n % p) n ⟨a, 1, hap, by omega, rfl, rfl, by rw [Nat.one_mul]⟩ (fun m S g hI => ?_)
  obtain ⟨x, c, hx, hc, rfl, rfl, he⟩ := hI
  by_cases hm : m = 0
  · subst hm
    refine .stop ((xt_gt (xe_var 2 rfl) xe_int).to (decide_eq_false (by omega))) (xb_one (xs_ret (XE.to (xe_var 3 rfl) ?_)))
    rw [Nat.pow_zero, Nat.mul_one, Nat.mod_eq_of_lt hc] at he
    rw [he]
  · refine .go ((xt_gt (xe_var 2 rfl) xe_int).to (decide_eq_true (by omega))) ?_
    have h2 : m / 2 < m := Nat.div_lt_self (by omega) (by decide)
    have hxx : ((x : Int) * (x : Int)) % ((p : Nat) : Int) = ((x * x % p : Nat) : Int) := by rw [Int.natCast_emod, Int.natCast_mul]
    have hcx : ((c : Int) * (x : Int)) % ((p : Nat) : Int) = ((c * x % p : Nat) : Int) := by rw [Int.natCast_emod, Int.natCast_mul]
    have hd2 : ((m : Nat) : Int) / 2 = ((m / 2 : Nat) : Int) := by omega
    have sqx : ∀ k : Nat, (x * x % p) ^ k % p = x ^ (2 * k) % p := fun k => by rw [← Nat.pow_mod, ← Nat.pow_two, ← Nat.pow_mul]
    by_cases hodd : m % 2 = 1
    · refine .next (xb_cons (xs_ifT ((xt_eqI (xe_mod (xe_var 2 rfl) xe_int (by decide)) xe_int).to (decide_eq_true (by omega))) (xb_one (xs_set 3 (xe_mod (xe_mul (xe_var 3 rfl) (xe_var 1 rfl) (mSmall (small_p h c hc) (small_p h x hx))) (xe_var 0 rfl) hpI) sc_power_of.nd)))
        (xb_cons (xs_set 1 (xe_mod (xe_mul (xe_var 1 rfl) (xe_var 1 rfl) (mSmall (small_p h x hx) (small_p h x hx))) (xe_var 0 rfl) hpI) sc_power_of.nd) (xb_one (xs_augC 2 iop_fdiv rfl xe_int ⟨by decide, by decide⟩ sc_power_of.nd)))) ⟨m / 2, h2, x * x % p, c * x % p, Nat.mod_lt _ (by omega), Nat.mod_lt _ (by omega), ?_, rfl, ?_⟩
      · show [Sl.v (.int p), Sl.v (.int (((x : Int) * (x : Int)) % ((p : Nat) : Int))), Sl.v (.int ((m : Int) / 2)), Sl.v (.int (((c : Int) * (x : Int)) % ((p : Nat) : Int)))] = _
        rw [hxx, hd2, hcx]
      · rw [Nat.mod_mul_mod, Nat.mul_mod, sqx, ← Nat.mul_mod, ← he, Nat.mul_assoc]
        have : x * x ^ (2 * (m / 2)) = x ^ m := by rw [Nat.mul_comm, ← Nat.pow_succ]; exact congrArg (x ^ ·) (by omega)
        rw [this]
    · refine .next (xb_cons (xs_ifF ((xt_eqI (xe_mod (xe_var 2 rfl) xe_int (by decide)) xe_int).to (decide_eq_false (by omega))) xb_nil)
        (xb_cons (xs_set 1 (xe_mod (xe_mul (xe_var 1 rfl) (xe_var 1 rfl) (mSmall (small_p h x hx) (small_p h x hx))) (xe_var 0 rfl) hpI) sc_power_of.nd) (xb_one (xs_augC 2 iop_fdiv rfl xe_int ⟨by decide, by decide⟩ sc_power_of.nd)))) ⟨m / 2, h2, x * x % p, c, Nat.mod_lt _ (by omega), hc, ?_, rfl, ?_⟩
      · show [Sl.v (.int p), Sl.v (.int (((x : Int) * (x : Int)) % ((p : Nat) : Int))), Sl.v (.int ((m : Int) / 2)), Sl.v (.int c)] = _
        rw [hxx, hd2]
      · rw [Nat.mul_mod, sqx, ← Nat.mul_mod, ← he]
        have : x ^ (2 * (m / 2)) = x ^ m := congrArg (x ^ ·) (by omega)
        rw [this]
def R_inverse (ds : List D) (d : D) : Prop := ∃ (k : FK) (a : k.α), ds = [.int k.f, k.rep a] ∧ a ≠ k.zero ∧ d = k.rep (k.inv a)
theorem d_inverse (raw : Raw K mg "inverse" s_inverse ["field", "number"]) (D1 : Def P w K mg base 1 "power_of" s_power_of ["field", "number", "many"] (spP K R_power_of)) : Def P w K mg base 2 "inverse" s_inverse ["field", "number"] (spP K R_inverse) := by
  refine raw.d fun f fd Fn => fnP Fn sc_inverse (fun ds d ⟨k, a, h, _⟩ => by rw [h] <;> rfl) fun cdv A outer s H E ds d hr hR Fm hF => ?_
  obtain ⟨k, a, rfl, ha, rfl⟩ := hR
  cases k with
  | rat =>
    refine xb_ifF ((xt_neI (xe_var 0 rfl) xe_int).to rfl) ?_
    have hn : (a : Rat).num ≠ 0 := fun e => ha (Rat.num_eq_zero.mp e)
    have e1 : FK.rat.rep (FK.rat.inv a) = .tup [.int ((a : Rat).num.sign * ((a : Rat).den : Nat)), .int (((a : Rat).num.natAbs : Nat))] := by
      show D.tup [.int ((a : Rat)⁻¹).num, .int (((a : Rat)⁻¹).den : Nat)] = _
      rw [Rat.num_inv, Rat.den_inv, if_neg hn]
    rw [e1]
    by_cases hp : 0 < (a : Rat).num
    · refine xb_one (xs_ret (xe_ifT ((xt_gt (xe_ix (xe_var 1 rfl) xe_int rfl) xe_int).to (decide_eq_true hp)) (XE.to (xe_tup (xd_cons (xe_ix (xe_var 1 rfl) xe_int rfl) (xd_cons (xe_ix (xe_var 1 rfl) xe_int rfl) xd_nil))) ?_)))
      rw [Int.sign_eq_one_of_pos hp, Int.one_mul, Int.natAbs_of_nonneg (by omega)]
    · refine xb_one (xs_ret (xe_ifF ((xt_gt (xe_ix (xe_var 1 rfl) xe_int rfl) xe_int).to (decide_eq_false hp)) (XE.to (xe_tup (xd_cons (xe_neg (xe_ix (xe_var 1 rfl) xe_int rfl)) (xd_cons (xe_neg (xe_ix (xe_var 1 rfl) xe_int rfl)) xd_nil))) ?_)))
      rw [Int.sign_eq_neg_one_of_neg (by omega), Int.neg_one_mul, Int.ofNat_natAbs_of_nonpos (by omega)]
  | mod p h =>
    have hp := (P100_two p h).1
    refine xb_ifT ((xt_neI (xe_var 0 rfl) xe_int).to (ne_t (f_ne h))) (xb_one (xs_ret (xe_call D1 hr (xd_cons (xe_var 0 rfl) (xd_cons (xe_var 1 rfl) (xd_cons (XE.to (y := .int ((p - 2 : Nat) : Int)) (xe_sub (xe_var 0 rfl) xe_int) ?_) xd_nil))) ⟨p, h, a.val, p - 2, a.isLt, rfl, rfl⟩)))
    show D.int (((p : Nat) : Int) - 2) = _
    rw [Int.natCast_sub (by omega)]
    rfl
/-! number_text -/
namespace FK
def text : (k : FK) → k.α → Str
  | .rat, r => if (r : Rat).den = 1 then (toString (r : Rat).num : String) else Str.ofString (toString (r : Rat).num) ++ Str.ofString "/" ++ Str.ofString (toString (((r : Rat).den : Nat) : Int))
  | .mod _ _, a => (toString ((a.val : Nat) : Int) : String)
end FK
def R_number_text (ds : List D) (d : D) : Prop := ∃ (k : FK) (a : k.α), ds = [.int k.f, k.rep a] ∧ k.sz 1900 a ∧ d = .str (k.text a)
theorem log_lt {n : Int} (h : n.natAbs < 2 ^ 1900) : n.natAbs.log2 < 1920 := PySem.Flt.log2_lt_of (by decide) (Nat.lt_of_lt_of_le h (Nat.pow_le_pow_right (by decide) (by decide)))
theorem text_len {n : Int} (h : n.natAbs < 2 ^ 1900) : (Str.ofString (toString n)).length ≤ 2000 := by
  have := int_text_length_le (k := 1920) (by decide) (log_lt h)
  rw [PySem.ofString_length]
  omega
theorem str_len_app (a b : Str) : (a ++ b).length = a.length + b.length := Array.size_append
theorem str_empty_app (a : Str) : Str.empty ++ a = a := by
  show Str.mk (#[] ++ a.cps) = a
  rw [Array.empty_append]
theorem d_number_text (T : Txt mg) (raw : Raw K mg "number_text" s_number_text ["field", "number"]) : Def P w K mg base 1 "number_text" s_number_text ["field", "number"] (spP K R_number_text) := by
  refine raw.d fun f fd Fn => fnP Fn sc_number_text (fun ds d ⟨k, a, h, _⟩ => by rw [h] <;> rfl) fun cdv A outer s H E ds d hr hR Fm hF => ?_
  obtain ⟨k, a, rfl, ha, rfl⟩ := hR
  cases k with
  | rat =>
    refine xb_ifF ((xt_neI (xe_var 0 rfl) xe_int).to rfl) ?_
    have hd : ((((a : Rat).den : Nat) : Int)).natAbs < 2 ^ 1900 := ha.2
    by_cases h1 : (a : Rat).den = 1
    · refine xb_one (xs_ret (xe_ifT ((xt_eqI (xe_ix (xe_var 1 rfl) xe_int rfl) xe_int).to (decide_eq_true (by rw [h1] <;> rfl))) (XE.to (xe_strI (xe_ix (xe_var 1 rfl) xe_int rfl) (log_lt ha.1) T.str) ?_)))
      show D.str _ = D.str (if (a : Rat).den = 1 then _ else _)
      rw [if_pos h1]
    · refine xb_one (xs_ret (xe_ifF ((xt_eqI (xe_ix (xe_var 1 rfl) xe_int rfl) xe_int).to (decide_eq_false (by omega))) (XE.to (xe_join3 (xe_fmtI (xe_ix (xe_var 1 rfl) xe_int rfl) (log_lt ha.1)) xe_str (xe_fmtI (xe_ix (xe_var 1 rfl) xe_int rfl) (log_lt hd)) ?_) ?_)))
      · have e1 := text_len ha.1
        have e2 := text_len hd
        have e3 : (Str.ofString "/").length = 1 := by decide +kernel
        have e4 : (5000 : Nat) ≤ sizeLine := by decide
        omega
      · show D.str _ = D.str (if (a : Rat).den = 1 then _ else _)
        rw [if_neg h1]
  | mod p h =>
    exact xb_ifT ((xt_neI (xe_var 0 rfl) xe_int).to (ne_t (f_ne h))) (xb_one (xs_ret (xe_strI (xe_var 1 rfl) (log_lt (Nat.lt_of_lt_of_le (small_p h a.val a.isLt) (Nat.pow_le_pow_right (by decide) (by decide)))) T.str)))
end
end Z
namespace Z
open PySem PySem.Spec PyProof.Rows L2
section
variable {P : Program} {w : World} {K : PySem.W.Frag} {mg : Str → Option Value} {base : Heap} (T : Txt mg)
/-! _law_any -/
theorem strip_last {xs : List Int} (h : xs ≠ []) (hz : xs.getLast h = 0) : strip xs = strip xs.dropLast := by
  have e := List.dropLast_concat_getLast h
  conv => lhs; rw [← e, hz]
  rw [strip_snoc, if_pos rfl]
theorem strip_stop {xs : List Int} (h : xs ≠ []) (hz : xs.getLast h ≠ 0) : strip xs = xs := by
  have e := List.dropLast_concat_getLast h
  conv => lhs; rw [← e]
  rw [strip_snoc, if_neg hz, e]
theorem strip_nil : strip [] = [] := rfl
theorem ints_last {xs : List Int} (h : xs ≠ []) : (xs.map V.int)[(xs.map V.int).length - 1]? = some (.int (xs.getLast h)) := by
  rw [List.length_map, List.getElem?_map, List.getLast_eq_getElem, List.getElem?_eq_getElem]
  rfl
theorem atI_lastI {xs : List Int} (h : xs ≠ []) : atI (xs.map V.int) (-1) = some (.int (xs.getLast h)) := by
  have e := List.dropLast_concat_getLast h
  conv => lhs; rw [← e]
  rw [List.map_append, List.map_singleton]
  exact atI_last _ _
theorem d_law_any (T : Txt mg) (raw : Raw K mg "_law_any" s_law_any ["deal", "bound"]) : Def P w K mg base 1 "_law_any" s_law_any ["deal", "bound"] (spD K R_any) := by
  refine raw.d fun f fd Fn => Fn.ok sc_law_any (fun vs H Q E h => ?_) (fun cdv A outer s H vs Q E hr h => ?_)
  · obtain ⟨as, g, d, g', Hs, a, c, ⟨b, rfl, _⟩, _, r, _⟩ := h
    rw [r.len]; rfl
  obtain ⟨as, g, d, g', Hs, a, c, ⟨b, rfl, hb, hb8, hG, rfl, rfl⟩, e, r, hac, h2, h3, hD, q⟩ := h
  have hvs : vs = [.ref a, .int b] := by
    cases r with
    | dl t =>
      cases t with
      | v r t => cases t; cases r; rfl
  subst hvs
  have hb30 : ∀ i : Int, CDivW i b := fun i => wide_div (b := 8000) hb (by
    have : b.natAbs = b.toNat := by omega
    rw [this]
    have h5 : ((b.toNat : Nat) : Int) < ((2 ^ 8000 : Nat) : Int) := by rw [Int.toNat_of_nonneg (by omega)]; simpa using hb8
    exact Int.ofNat_lt.mp h5) (by decide) (by decide)
  have fin : ∀ (H' : Hp) (i : Int) (g2 : DS), H' = HD H a c g2 → i = (anyF g b).1 → g2 = (anyF g b).2 → Q (.int i) H' := fun H' i g2 hH hi hg => by
    subst hH hi hg
    exact q _ Hs _ (Same.refl _) (HD_fin e hac h2 h3) (.int _)
  have L0 : ∀ z : List Int, SqL K (HD H a c (z, g.2)) a [.ref c, .int g.2] := fun z => .inl (.inl HD_a)
  have L1 : ∀ z : List Int, SqL K (HD H a c (z, g.2)) c (z.map V.int) := fun z => .inl (.inl (HD_c hac))
  -- what follows the loop, from the stripped lot
  have rest : ∃ tR, PSs (cxOf CX0 P w K mg base N_law_any "_law_any" (defScope s_law_any) f cdv A outer s H E).nox ((defBody s_law_any).drop 1) tR ∧ ∀ (zs : List Int) (y : Option V), zs = strip g.1 → zs.length ≤ 63 → tR { nx := fun _ H' => Q .non H', rt := Q } [some (.ref a), some (.int b), y] (HD H a c (zs, g.2)) := by
    refine ⟨_, pss_cons (ps_if (pt_cmpR op_gt (pe_callB call_len_seq (by rfl) T.len PySem.boot_len (pa_cons (pe_ix ix_list (pv 0) pe_int (fun _ _ => rfl)) pa_nil)) pe_int (nomark _))
      (pss_cons (ps_set (i := 2) sc_law_any.nd rfl (.inl rfl) (pe_callTy call_int1 (by rfl) T.int (by decide +kernel) (pa_cons (pe_bm0 PySem.F.plainAttrs_list PySem.F.slot_list_pop PySem.F.type_list_pop mt_pop (pe_ix ix_list (pv 0) pe_int (fun _ _ => rfl))) pa_nil)))
        (pss_cons (ps_expr (pe_bm PySem.F.plainAttrs_list PySem.F.slot_list_append PySem.F.type_list_append mt_append (pe_ix ix_list (pv 0) pe_int (fun _ _ => rfl)) (pa_cons (pe_op op_fdivW (pv 2) (pv 1)) pa_nil)))
          (pss_one (ps_ret (pe_op op_mod (pv 2) (pv 1)))))) pss_nil)
    (pss_cons (ps_asg (pe_op op_mod (pe_callTy call_int1 (by rfl) T.int (by decide +kernel) (pa_cons (pe_op op_add (pe_op op_mulW (pe_ix ix_list (pv 0) pe_int (fun _ _ => rfl)) pe_int) pe_int) pa_nil)) pe_int) (pg_sub (pv 0) pe_int set_list))
    (pss_one (ps_ret (pe_op op_mod (pe_callTy call_int1 (by rfl) T.int (by decide +kernel) (pa_cons (pe_op op_fdivW (pe_ix ix_list (pv 0) pe_int (fun _ _ => rfl)) pe_int) pa_nil)) (pv 1))))), fun zs y hz hzl => ?_⟩
    refine ⟨_, rfl, a, _, 0, _, rfl, rfl, L0 zs, rfl, c, _, rfl, .inl (L1 zs), _, _, rfl, rfl, _, rfl, ?_⟩
    rw [List.length_map]
    cases hn : zs with
    | nil =>
      have hns : strip g.1 = [] := by rw [← hz, hn]
      show (if (false : Bool) = true then _ else _)
      refine iteF ?_
      refine ⟨_, rfl, a, _, 1, _, rfl, rfl, L0 [], rfl, _, _, rfl, rfl, ?_, _, _, rfl, rfl, .inl ⟨_, rfl, _, _, rfl, rfl, (by show (0 : Int) < 2147483647; decide), ?_⟩⟩
      · exact wide_mul (a := 40) (b := 40) (by have := hG.lo; have := hG.hi; omega) (by decide) (by decide) (by decide) (by decide)
      refine ⟨_, rfl, a, _, 1, 1, rfl, rfl, HD_a, rfl, ?_⟩
      have hst' : upd (HD H a c ([], g.2)) a (.lst [.ref c, .int ((g.2 * 48271 + 31) % 2147483647)]) = HD H a c ([], stir g.2) := HD_upda
      dsimp only [List.set]
      rw [hst']
      have hs0 : 0 ≤ stir g.2 := Int.emod_nonneg _ (by decide)
      have hs1 : stir g.2 < 2147483647 := Int.emod_lt_of_pos _ (by decide)
      refine ⟨_, rfl, a, _, 1, _, rfl, rfl, .inl (.inl HD_a), rfl, _, _, rfl, rfl, wide_div (b := 8000) (by decide) (by decide) (by decide) (by decide), .inl ⟨_, rfl, _, rfl, _, _, rfl, rfl, hb, ?_⟩⟩
      refine fin _ _ _ rfl ?_ ?_
      · show _ = (match (strip g.1).getLast? with | some x => _ | none => _ : Int × DS).1
        rw [hns]
        rfl
      · show _ = (match (strip g.1).getLast? with | some x => _ | none => _ : Int × DS).2
        rw [hns]
        rfl
    | cons z0 zr =>
      have hne : zs ≠ [] := by rw [hn]; exact fun q => nomatch q
      rw [← hn]
      have hpos : decide ((0 : Int) < ((zs.length : Nat) : Int)) = true := decide_eq_true (by rw [hn]; simp only [List.length_cons]; omega)
      rw [hpos]
      refine iteT ?_
      have hD2 : upd (HD H a c (zs, g.2)) c (.lst (zs.map V.int).dropLast) = HD H a c (zs.dropLast, g.2) := by
        rw [← List.map_dropLast]; exact HD_updc (g := (zs, g.2)) hac
      refine ⟨_, rfl, a, _, 0, _, rfl, rfl, L0 zs, rfl, .inl ⟨rfl, _, L1 zs⟩, c, _, _, rfl, rfl, HD_c hac, ints_last hne, .inl ⟨_, rfl, ?_⟩⟩
      show tSeq _ _ _ _ (upd (HD H a c (zs, g.2)) c (.lst (zs.map V.int).dropLast))
      rw [hD2]
      refine ⟨_, rfl, a, _, 0, _, rfl, rfl, L0 _, rfl, .inl ⟨rfl, _, L1 _⟩, _, rfl, _, rfl, _, _, rfl, rfl, hb30 _, c, _, _, rfl, rfl, HD_c hac, ?_, ?_⟩
      · rw [List.length_map, List.length_dropLast]
        exact small1000 (by omega)
      have hD3 : upd (HD H a c (zs.dropLast, g.2)) c (.lst (zs.dropLast.map V.int ++ [.int (zs.getLast hne / b)])) = HD H a c (zs.dropLast ++ [zs.getLast hne / b], g.2) := by
        have := HD_updc (H := H) (g := (zs.dropLast, g.2)) (xs := zs.dropLast ++ [zs.getLast hne / b]) hac
        rw [List.map_append] at this
        exact this
      dsimp only
      rw [hD3]
      refine ⟨_, rfl, _, rfl, _, _, rfl, rfl, hb, fin _ _ _ rfl ?_ ?_⟩
      · show _ = (match (strip g.1).getLast? with | some x => _ | none => _ : Int × DS).1
        rw [← hz, List.getLast?_eq_some_getLast hne]
      · show _ = (match (strip g.1).getLast? with | some x => _ | none => _ : Int × DS).2
        rw [← hz, List.getLast?_eq_some_getLast hne]
  obtain ⟨tR, hR, tail⟩ := rest
  refine ⟨_, pss_cons (ps_while PassesOwn.never (pw_and (pt_cmpR op_gt (pe_callB call_len_seq (by rfl) T.len PySem.boot_len (pa_cons (pe_ix ix_list (pv 0) pe_int (fun _ _ => rfl)) pa_nil)) pe_int (nomark _))
        (pw_and1 (pt_cmpR op_eq (pe_ix ix_list (pe_ix ix_list (pv 0) pe_int (fun _ _ => rfl)) (pe_un un_neg pe_int) (fun _ _ => rfl)) pe_int (nomark _)))).pt
      (pss_one (ps_expr (pe_bm0 PySem.F.plainAttrs_list PySem.F.slot_list_pop PySem.F.type_list_pop mt_pop (pe_ix ix_list (pv 0) pe_int (fun _ _ => rfl)))))) hR, ?_⟩
  -- the while
  refine ⟨fun m σ H' => ∃ xs : List Int, m = xs.length ∧ xs.length ≤ 63 ∧ (∃ y, σ = [some (.ref a), some (.int b), y]) ∧ H' = HD H a c (xs, g.2) ∧ strip xs = strip g.1, ⟨_, g.1, rfl, hG.few, ⟨none, rfl⟩, (HD_eq hD hac).symm, rfl⟩, ?_⟩
  rintro m σ H' ⟨xs, rfl, hlen, ⟨y, rfl⟩, rfl, hst⟩
  refine ⟨_, rfl, a, _, 0, _, rfl, rfl, L0 xs, rfl, c, _, rfl, .inl (L1 xs), _, _, rfl, rfl, _, rfl, ?_⟩
  rw [List.length_map]
  cases hx : xs with
  | nil =>
    show (if (false : Bool) = true then _ else _)
    refine iteF (iteF ?_)
    exact tail [] y (by rw [← hst, hx]; rfl) (by decide)
  | cons x0 xr =>
    have hne : xs ≠ [] := by rw [hx]; exact fun q => nomatch q
    rw [← hx]
    have hpos : decide ((0 : Int) < ((xs.length : Nat) : Int)) = true := decide_eq_true (by rw [hx]; simp only [List.length_cons]; omega)
    rw [hpos]
    refine iteT ⟨_, rfl, a, _, 0, _, rfl, rfl, L0 xs, rfl, _, rfl, c, _, -1, _, rfl, rfl, L1 xs, atI_lastI hne, rfl, _, rfl, ?_⟩
    by_cases hz : xs.getLast hne = 0
    · rw [decide_eq_true (by rw [hz])]
      refine iteT ⟨fun σ' H' => (∃ y, σ' = [some (.ref a), some (.int b), y]) ∧ H' = HD H a c (xs.dropLast, g.2), fun σ' H' ⟨hσ, hH⟩ => ⟨xs.dropLast.length, by rw [List.length_dropLast]; have : 0 < xs.length := List.length_pos_iff.mpr hne; omega, xs.dropLast, rfl, by rw [List.length_dropLast]; omega, hσ, hH, by rw [← strip_last hne hz]; exact hst⟩, ?_⟩
      refine ⟨_, rfl, a, _, 0, _, rfl, rfl, L0 xs, rfl, .inl ⟨rfl, _, L1 xs⟩, c, _, _, rfl, rfl, HD_c hac, ints_last hne, ⟨y, rfl⟩, ?_⟩
      rw [← List.map_dropLast]
      exact HD_updc (g := (xs, g.2)) hac
    · rw [decide_eq_false (fun q => hz (V.int.inj q))]
      refine iteF ?_
      exact tail xs y (by rw [← hst, strip_stop hne hz]) hlen
end
end Z
namespace Z
open PySem PySem.Spec PyProof.Rows L2
section
variable {P : Program} {w : World} {K : PySem.W.Frag} {mg : Str → Option Value} {base : Heap}
/-! _law_of -/
theorem d_law_of (T : Txt mg) (raw : Raw K mg "_law_of" s_law_of ["deal", "some"]) (D1 : Def P w K mg base 1 "_law_any" s_law_any ["deal", "bound"] (spD K R_any)) : Def P w K mg base 2 "_law_of" s_law_of ["deal", "some"] (spD K R_of) := by
  refine raw.d fun f fd Fn => fnD Fn sc_law_of (fun as g d g' ⟨x, xs, h, _⟩ => by rw [h] <;> rfl) fun cdv A outer s H E as g d g' hr hR Fm hd => ?_
  obtain ⟨x, xs, rfl, hx, h0, h1, hG, hget, rfl⟩ := hR
  have hb := (any_good hG (b := (xs.length : Nat)) (by omega)).1
  have hlen : lenD x = some xs.length := by rcases hx with rfl | rfl <;> rfl
  have hat : atD x (anyF g (xs.length : Nat)).1 = some d := by
    have e : (anyF g (xs.length : Nat)).1 = (((anyF g (xs.length : Nat)).1.toNat : Nat) : Int) := by omega
    rw [e]
    rcases hx with rfl | rfl <;> exact atI_nat hget
  exact xb_one (xs_ret (xe_ix (xe_var 1 rfl) (xe_callD D1 hr (xa_dl 0 rfl (xa_cons (xe_len (xe_var 1 rfl) hlen T.len) xa_nil)) ⟨_, rfl, by omega, by
      have : (xs.length : Int) < 1000 := by omega
      exact Int.lt_trans this (by decide), hG, rfl, rfl⟩ hd) hat (fun s q => by rcases hx with rfl | rfl <;> cases q)))
/-! _law_is_kind, _law_same, _law_all -/
theorem d_law_is_kind (T : Txt mg) (raw : Raw K mg "_law_is_kind" s_law_is_kind ["told", "due"]) : Def P w K mg base 1 "_law_is_kind" s_law_is_kind ["told", "due"] (spP K R_is_kind) := by
  refine raw.d fun f fd Fn => fnP Fn sc_law_is_kind (fun ds d ⟨x, h, _⟩ => by rw [h] <;> rfl) fun cdv A outer s H E ds d hr hR Fm hF => ?_
  obtain ⟨x, rfl, hx, rfl⟩ := hR
  cases x with
  | non => exact xb_ifT (xt_isN (xe_var 1 rfl)) (xb_one (xs_ret (xe_isN (xe_var 0 rfl))))
  | bl b =>
    refine xb_ifF (xt_isN (xe_var 1 rfl)) ?_
    cases b with
    | true => exact xb_ifT (XW.tst (xw_orT (xt_isB (xe_var 1 rfl) rfl))) (xb_one (xs_ret (xe_ifT (xt_val (xe_var 1 rfl)) (xe_isB (xe_var 0 rfl) rfl))))
    | false => exact xb_ifT (XW.tst (xw_orF (xt_isB (xe_var 1 rfl) rfl) (xw_or1 (xt_isB (xe_var 1 rfl) rfl)))) (xb_one (xs_ret (xe_ifF (xt_val (xe_var 1 rfl)) (xe_isB (xe_var 0 rfl) rfl))))
  | int i =>
    refine xb_ifF (xt_isN (xe_var 1 rfl)) (xb_ifF (XW.tst (xw_orF (xt_isB (xe_var 1 rfl) rfl) (xw_or1 (xt_isB (xe_var 1 rfl) rfl)))) (xb_ifF (xt_val (xe_isi (xe_var 1 rfl) boot_str (kit_str _) T.str T.isinstance)) ?_))
    exact xb_one (xs_ret (xe_andT (xe_isi (xe_var 0 rfl) boot_int (kit_int _) T.int T.isinstance) (xe_andT (XE.to (xe_not (xe_isi (xe_var 0 rfl) boot_bool (kit_bool _) T.bool T.isinstance)) rfl) (xe_and1 (XE.to (xe_eqI (xe_var 0 rfl) (xe_var 1 rfl)) (by rw [decide_eq_true rfl]))))))
  | str i =>
    refine xb_ifF (xt_isN (xe_var 1 rfl)) (xb_ifF (XW.tst (xw_orF (xt_isB (xe_var 1 rfl) rfl) (xw_or1 (xt_isB (xe_var 1 rfl) rfl)))) (xb_ifT (xt_val (xe_isi (xe_var 1 rfl) boot_str (kit_str _) T.str T.isinstance)) ?_))
    exact xb_one (xs_ret (xe_andT (xe_isi (xe_var 0 rfl) boot_str (kit_str _) T.str T.isinstance) (xe_and1 (XE.to (xe_eqS (xe_var 0 rfl) (xe_var 1 rfl)) (by rw [decide_eq_true rfl])))))
  | tup _ => cases hx
  | lst _ => cases hx
def prD (y : D) : D := .tup [y, y]
theorem d_law_same (T : Txt mg) (raw : Raw K mg "_law_same" s_law_same ["told", "due"]) (D1 : Def P w K mg base 1 "_law_is_kind" s_law_is_kind ["told", "due"] (spP K R_is_kind)) : Def P w K mg base 2 "_law_same" s_law_same ["told", "due"] (spP K R_same) := by
  refine raw.d fun f fd Fn => fnP Fn sc_law_same (fun ds d ⟨x, h, _⟩ => by rw [h] <;> rfl) fun cdv A outer s H E ds d hr hR Fm hF => ?_
  obtain ⟨x, rfl, hx, hn, rfl⟩ := hR
  have line : ∀ n : Nat, n ≤ 100001 → n < sizeLine := fun n h => Nat.lt_of_le_of_lt h (by decide)
  have nl : ∀ ys : List D, ys.length ≤ nodesL ys := fun ys => by
    induction ys with
    | nil => exact Nat.zero_le _
    | cons y ys ih => rw [nodesL, List.length_cons]; have := nodes_pos y; omega
  refine xb_cons (xs_setN 2 (xn_lst (xd_cons (xe_tup (xd_cons (xe_var 0 rfl) (xd_cons (xe_var 1 rfl) xd_nil))) xd_nil)) sc_law_same.nd) ?_
  refine xb_while (fun m S g => ∃ (ys : List D) (s3 s4 s5 : Sl), m = nodesL ys ∧ (∀ y ∈ ys, plainD y = true) ∧ nodesL ys ≤ 100000 ∧ S = [.v x, .v x, .own (ys.map prD), s3, s4, s5] ∧ g = ([], 0)) (nodes x)
    ⟨[x], .un, .un, .un, by rw [nodesL, nodesL]; rfl, fun y hy => by rw [List.mem_singleton] at hy; rw [hy]; exact hx, by rw [nodesL, nodesL]; exact hn, rfl, rfl⟩ (fun m S g hI => ?_)
  obtain ⟨ys, s3, s4, s5, rfl, hp, hle, rfl, rfl⟩ := hI
  rcases List.eq_nil_or_concat ys with rfl | ⟨zs, y, rfl⟩
  · exact .stop (xt_gt (xe_lenO 2 rfl T.len) xe_int) (xb_one (xs_ret xe_bl))
  · refine .go ((xt_gt (xe_lenO 2 rfl T.len) xe_int).to (decide_eq_true (by rw [List.length_map, List.concat_eq_append, List.length_append, List.length_singleton]; omega))) ?_
    rw [List.concat_eq_append] at hp hle ⊢
    rw [List.map_append, List.map_singleton]
    have hy : plainD y = true := hp y (List.mem_append_right _ List.mem_cons_self)
    have hz : ∀ z ∈ zs, plainD z = true := fun z h => hp z (List.mem_append_left _ h)
    have hnl : nodesL (zs ++ [y]) = nodesL zs + nodes y := by rw [nodesL_append]; show _ + nodesL (y :: []) = _; rw [nodesL, nodesL]; rfl
    have hy0 := nodes_pos y
    -- one, other = todo.pop()
    cases y with
    | tup us =>
      have hus : nodes (.tup us) = 1 + nodesL us := by rw [nodes]
      have hpu : ∀ u ∈ us, plainD u = true := fun u hu => plainDs_mem (by rw [plainD] at hy; exact hy) hu
      have hlu := nl us
      have hlz := nl zs
      refine .next (S' := [.v x, .v x, .own ((zs ++ us).map prD), .v (.tup us), .v (.tup us), .un]) (g' := ([], 0)) (xb_cons (xs_pop 2 rfl (xg_tup (xgs_cons (xg_name 3 sc_law_same.nd) (xgs_cons (xg_name 4 sc_law_same.nd) xgs_nil)))) ?_) ⟨nodesL (zs ++ us), ?_, zs ++ us, .v (.tup us), .v (.tup us), .un, rfl, ?_, ?_, rfl, rfl⟩
      · refine xb_one (xs_ifT (xt_val (xe_isi (xe_var 4 rfl) boot_tuple (kit_tuple _) T.tuple T.isinstance)) ?_)
        refine xb_ifF (XW.tst (xw_orF (XT.to (xt_not (xt_val (xe_isi (xe_var 3 rfl) boot_tuple (kit_tuple _) T.tuple T.isinstance))) rfl) (xw_or1 (XT.to (xt_neI (xe_len (xe_var 3 rfl) rfl T.len) (xe_len (xe_var 4 rfl) rfl T.len)) (by rw [decide_eq_true rfl] <;> rfl))))) ?_
        refine xb_forR1 (xd_cons (xe_len (xe_var 4 rfl) rfl T.len) xd_nil) (fun i S g => ∃ s5', S = [.v x, .v x, .own ((zs ++ us.take i).map prD), .v (.tup us), .v (.tup us), s5'] ∧ g = ([], 0)) ⟨s5, by rw [List.take_zero, List.append_nil]; rfl, rfl⟩ (fun i S g hi hI => ?_) (fun S g hI => ?_) (by omega) T.range
        · obtain ⟨s5', rfl, rfl⟩ := hI
          have hui : us[i]? = some us[i] := List.getElem?_eq_getElem hi
          refine .mk (xg_name 5 sc_law_same.nd) (.next (xb_one (xs_app 2 rfl (xe_tup (xd_cons (xe_ix (xe_var 3 rfl) (xe_var 5 rfl) (atI_nat hui)) (xd_cons (xe_ix (xe_var 4 rfl) (xe_var 5 rfl) (atI_nat hui)) xd_nil))) ?_)) ⟨.v (.int (i : Nat)), ?_, rfl⟩)
          · refine line _ ?_
            rw [List.length_map, List.length_append, List.length_take]
            omega
          · have e : (zs ++ us.take (i + 1)).map prD = (zs ++ us.take i).map prD ++ [prD us[i]] := by
              rw [List.take_add_one, hui, Option.toList_some, ← List.append_assoc, List.map_append, List.map_singleton]
            rw [e]
            rfl
        · obtain ⟨s5', rfl, rfl⟩ := hI
          rw [List.take_of_length_le (Nat.le_refl _)]
          exact xb_nil_un 5
      · rw [hnl, hus, nodesL_append]; omega
      · intro u hu
        rcases List.mem_append.mp hu with hu | hu
        · exact hz u hu
        · exact hpu u hu
      · rw [nodesL_append]; rw [hnl, hus] at hle; omega
    | lst us => rw [plainD] at hy; cases hy
    | _ =>
      refine .next (xb_cons (xs_pop 2 rfl (xg_tup (xgs_cons (xg_name 3 sc_law_same.nd) (xgs_cons (xg_name 4 sc_law_same.nd) xgs_nil)))) (xb_one (xs_ifF (xt_val (xe_isi (xe_var 4 rfl) boot_tuple (kit_tuple _) T.tuple T.isinstance)) (xb_one (xs_ifF (XW.tst (xw_orF (xt_val (xe_isi3 (xe_var 3 rfl) boot_tuple boot_list boot_dict (kit_tuple _) (kit_list _) (kit_dict _) T.tuple T.list T.dict T.isinstance))
          (xw_or1 (XT.to (xt_not (xt_val (xe_call D1 hr (xd_cons (xe_var 3 rfl) (xd_cons (xe_var 4 rfl) xd_nil)) ⟨_, rfl, rfl, rfl⟩))) rfl)))) xb_nil)))))
        ⟨nodesL zs, ?_, zs, _, _, s5, rfl, hz, ?_, rfl, rfl⟩
      · rw [hnl]; omega
      · rw [hnl] at hle; omega
theorem d_law_all (T : Txt mg) (raw : Raw K mg "_law_all" s_law_all ["pairs"]) (D1 : Def P w K mg base 2 "_law_same" s_law_same ["told", "due"] (spP K R_same)) : Def P w K mg base 3 "_law_all" s_law_all ["pairs"] (spP K R_all) := by
  refine raw.d fun f fd Fn => fnP Fn sc_law_all (fun ds d ⟨x, h, _⟩ => by rw [h] <;> rfl) fun cdv A outer s H E ds d hr hR Fm hF => ?_
  obtain ⟨ps, rfl, hp, hl, rfl⟩ := hR
  refine xb_one (xs_ret (XE.to (xe_eqI (xe_len (XN.val (xn_lcL (ys := []) [("told", 1), ("due", 2)] sc_law_all.nd (xe_var 0 rfl) (lr_none _ fun q hq => ?_) (by decide) (blkOk_by (N := N_law_all) (sc := defScope s_law_all) (by decide +kernel)))) rfl T.len) xe_int) rfl))
  obtain ⟨x, rfl, h1, h2⟩ := hp q hq
  exact lstepF (outs_set (i := 2) (outs_set (i := 1) outs_refl)) (fun s H C cl fp => xl_tup (xls_cons (xl_name 1 sc_law_all.nd) (xls_cons (xl_name 2 sc_law_all.nd) xls_nil)))
    (fun T' s H C cl fp => XT.to (xt_not (xt_val (xe_call D1 hr (xd_cons (xe_var 1 rfl) (xd_cons (xe_var 2 rfl) xd_nil)) ⟨_, rfl, h1, h2, rfl⟩))) rfl)
end
end Z
namespace Z
open PySem PySem.Spec PyProof.Rows L2
section
theorem lr_mapI {step : D → DS → Option D → DS → Prop} {g : DS} (f : Int → Int) : ∀ (ns : List Int), (∀ n ∈ ns, step (.int n) g (some (.int (f n))) g) → Lr step (ns.map D.int) g ((ns.map f).map D.int) g
  | [], _ => .nil
  | n :: r, h => .keep (h n List.mem_cons_self) (lr_mapI f r fun y hy => h y (List.mem_cons_of_mem _ hy))
theorem lr_filterI {step : D → DS → Option D → DS → Prop} {g : DS} (t : Int → Bool) : ∀ (ns : List Int), (∀ n ∈ ns, t n = true → step (.int n) g (some (.int n)) g) → (∀ n ∈ ns, t n = false → step (.int n) g none g) → Lr step (ns.map D.int) g ((ns.filter t).map D.int) g
  | [], _, _ => .nil
  | n :: r, h1, h2 => by
    have ih := lr_filterI t r (fun y hy => h1 y (List.mem_cons_of_mem _ hy)) (fun y hy => h2 y (List.mem_cons_of_mem _ hy))
    rw [List.map_cons]
    cases ht : t n with
    | true =>
      rw [List.filter_cons_of_pos ht]
      exact .keep (h1 n List.mem_cons_self ht) ih
    | false =>
      rw [List.filter_cons_of_neg (by rw [ht]; exact Bool.false_ne_true)]
      exact .skip (h2 n List.mem_cons_self ht) ih
variable {P : Program} {w : World} {K : PySem.W.Frag} {mg : Str → Option Value} {base : Heap}
/-! _law_deal -/
theorem cells_eq (ns : List Int) (hl : ns.length ≤ 63) : ∀ x ∈ ns.map (fun n => ((n.natAbs : Nat) : Int) % 10 ^ 384), 0 ≤ x ∧ x < 2 ^ 1300 := by
  intro x hx
  obtain ⟨n, _, rfl⟩ := List.mem_map.mp hx
  refine ⟨Int.emod_nonneg _ (by decide +kernel), Int.lt_trans (Int.emod_lt_of_pos _ (by decide +kernel)) (by decide +kernel)⟩
theorem mulB {i j : Int} (h1 : i.natAbs < 2 ^ 3000) (h2 : j.natAbs < 2 ^ 3000) : CMulW i j := wide_mul h1 h2 (by decide) (by decide) (by decide)
def mixF (m c : Int) : Int := (m * 69621 + c % 2147483563 + 23) % 2147483647
theorem mix_in (cells : List Int) : ∀ (m : Int), (0 ≤ m ∧ m < 2147483647) → 0 ≤ cells.foldl mixF m ∧ cells.foldl mixF m < 2147483647 := by
  induction cells with
  | nil => intro m h; exact h
  | cons c r ih => intro m h; exact ih _ ⟨Int.emod_nonneg _ (by decide), Int.emod_lt_of_pos _ (by decide)⟩
theorem most_eq : (((((10 : Int) ^ 64 * 10 ^ 64) * 10 ^ 64) * 10 ^ 64) * 10 ^ 64) * 10 ^ 64 = 10 ^ 384 := by decide +kernel
theorem d_law_deal (T : Txt mg) (raw : Raw K mg "_law_deal" s_law_deal ["script", "salt"]) : Def P w K mg base 1 "_law_deal" s_law_deal ["script", "salt"] (spMk K) := by
  refine raw.d fun f fd Fn => fnMk Fn sc_law_deal fun cdv A outer s H E sa salt ns hr hS hl hsa => ?_
  have hcells := cells_eq ns hl
  have hcl : (ns.map (fun n => ((n.natAbs : Nat) : Int) % 10 ^ 384)).length ≤ 63 := by rw [List.length_map]; exact hl
  have p64 : CPow 10 64 := ⟨by decide, by decide, by decide⟩
  have hm0 : 0 ≤ 70001 + 7919 * salt ∧ 70001 + 7919 * salt < 2147483647 := by omega
  obtain ⟨most, hmost⟩ : ∃ m : Int, m = 10 ^ 384 := ⟨_, rfl⟩
  have hmp : 0 < most := by rw [hmost]; decide +kernel
  rw [← hmost] at hcells hcl
  obtain ⟨cells, hc⟩ : ∃ cs, cs = ns.map (fun n => ((n.natAbs : Nat) : Int) % most) := ⟨_, rfl⟩
  rw [← hc] at hcells hcl
  have hm := mix_in cells _ hm0
  refine ⟨((cells.filter (fun c => decide (10 ^ 18 ≤ c))).reverse, cells.foldl mixF (70001 + 7919 * salt)), ⟨fun x hx => ?_, ?_, hm.1, hm.2⟩, ?_⟩
  · rw [List.mem_reverse, List.mem_filter] at hx
    exact hcells x hx.1
  · rw [List.length_reverse]
    exact Nat.le_trans (List.length_filter_le _ _) hcl
  refine xb_cons (xs_set 2 (d := .int most) (XE.to (xe_mul (xe_mul (xe_mul (xe_mul (xe_mul (xe_pow xe_int xe_int p64) (xe_pow xe_int xe_int p64) ?_) (xe_pow xe_int xe_int p64) ?_) (xe_pow xe_int xe_int p64) ?_) (xe_pow xe_int xe_int p64) ?_) (xe_pow xe_int xe_int p64) ?_) ?_) sc_law_deal.nd) ?_
  · exact mulB (by decide +kernel) (by decide +kernel)
  · exact mulB (by decide +kernel) (by decide +kernel)
  · exact mulB (by decide +kernel) (by decide +kernel)
  · exact mulB (by decide +kernel) (by decide +kernel)
  · exact mulB (by decide +kernel) (by decide +kernel)
  · rw [hmost]; exact congrArg D.int most_eq
  refine xb_consF 3 (xs_lcL 3 [("cell", 5)] sc_law_deal.nd (XN.val (xn_script 0 rfl hS rfl (by omega))) (ys := cells.map D.int) (by
    rw [hc]
    exact lr_mapI _ ns fun n _ => lstep1 (outs_set (i := 5) outs_refl) (fun s H C cl fp => xl_name 5 sc_law_deal.nd) (fun T' s H C cl fp => xe_mod (xe_int1 (xe_abs (xe_int1 (xe_var 5 rfl) T.int) T.abs) T.int) (xe_var 2 rfl) hmp))
    (by rw [List.length_map]; exact Nat.lt_of_le_of_lt hcl (by decide)) (blkOk_by (N := N_law_deal) (sc := defScope s_law_deal) (by decide +kernel)) (sw_true rfl rfl rfl (by decide +kernel))) ?_
  refine xb_cons (xs_set 4 (xe_add xe_int (xe_mul xe_int (xe_var 1 rfl) (mulB (by decide +kernel) ?_))) sc_law_deal.nd) ?_
  · have : salt.natAbs < 200000 := by omega
    exact Nat.lt_trans this (by decide +kernel)
  refine xb_forL (xe_var 3 rfl) (fun i S g => ∃ s5, S = [.raw (.ref sa), .v (.int salt), .v (.int most), .v (.lst (cells.map D.int)), .v (.int ((cells.take i).foldl mixF (70001 + 7919 * salt))), s5] ∧ g = ([], 0)) ⟨_, rfl, rfl⟩ (fun i x S g hx hI => ?_) (fun S g hI => ?_)
  · obtain ⟨s5, rfl, rfl⟩ := hI
    have hi : i < cells.length := by have := (List.getElem?_eq_some_iff.mp hx).1; rw [List.length_map] at this; exact this
    rw [List.getElem?_map, List.getElem?_eq_getElem hi] at hx
    cases hx
    have hmi := mix_in (cells.take i) _ hm0
    refine .mk (xg_name 5 sc_law_deal.nd) (.next (xb_one (xs_set 4 (xe_mod (xe_int1 (xe_add (xe_add (xe_mul (xe_var 4 rfl) xe_int (mulB ?_ (by decide +kernel))) (xe_mod (xe_int1 (xe_var 5 rfl) T.int) xe_int (by decide))) xe_int) T.int) xe_int (by decide)) sc_law_deal.nd)) ⟨.v (.int cells[i]), ?_, rfl⟩)
    · refine Nat.lt_trans (m := 2147483647) (by omega) (by decide +kernel)
    · have e : (cells.take (i + 1)).foldl mixF (70001 + 7919 * salt) = mixF ((cells.take i).foldl mixF (70001 + 7919 * salt)) cells[i] := by
        rw [List.take_add_one, List.getElem?_eq_getElem hi, Option.toList_some, List.foldl_append]; rfl
      rw [e]
      rfl
  · obtain ⟨s5, rfl, rfl⟩ := hI
    rw [List.length_map, List.take_of_length_le (Nat.le_refl _)]
    refine xb_forget 5 (xb_one (xs_retDeal rfl (XN.to (xn_rev (XN.val (xn_lcL [("cell", 5)] sc_law_deal.nd (xe_var 3 rfl) (lr_filterI (fun c => decide (10 ^ 18 ≤ c)) cells (fun n _ h => ?_) (fun n _ h => ?_)) ?_ (blkOk_by (N := N_law_deal) (sc := defScope s_law_deal) (by decide +kernel))))) ?_) (xe_var 4 rfl)))
    · exact lstepT (outs_set (i := 5) outs_refl) (fun s H C cl fp => xl_name 5 sc_law_deal.nd) (fun T' s H C cl fp => xt_ge (xe_var 5 rfl) (xe_pow xe_int xe_int ⟨by decide, by decide, by decide⟩)) (fun T' s H C cl fp => xe_var 5 rfl) h
    · exact lstepF (outs_set (i := 5) outs_refl) (fun s H C cl fp => xl_name 5 sc_law_deal.nd) (fun T' s H C cl fp => xt_ge (xe_var 5 rfl) (xe_pow xe_int xe_int ⟨by decide, by decide, by decide⟩)) h
    · rw [List.length_map]
      exact Nat.lt_of_le_of_lt (Nat.le_trans (List.length_filter_le _ _) hcl) (by decide)
    · rw [List.map_reverse]
end
end Z
namespace Z
open PySem PySem.Spec PyProof.Rows L2
section
variable {P : Program} {w : World} {K : PySem.W.Frag} {mg : Str → Option Value} {base : Heap}
/-! _law_shared, _law_number -/
theorem d_law_shared (T : Txt mg) (raw : Raw K mg "_law_shared" s_law_shared ["one", "other"]) : Def P w K mg base 1 "_law_shared" s_law_shared ["one", "other"] (spP K R_common_divisor) := by
  refine raw.d fun f fd Fn => fnP Fn sc_law_shared (fun ds d ⟨a, b, h, _⟩ => by rw [h] <;> rfl) fun cdv A outer s H E ds d hr hR Fm hF => ?_
  obtain ⟨a, b, rfl, rfl⟩ := hR
  refine xb_cons (xs_par 0 1 (xd_cons (xe_abs (xe_var 0 rfl) T.abs) (xd_cons (xe_abs (xe_var 1 rfl) T.abs) xd_nil)) sc_law_shared.nd) ?_
  refine xb_while (fun m S g => ∃ x : Nat, S = [.v (.int x), .v (.int m)] ∧ g = ([], 0) ∧ Nat.gcd x m = Int.gcd a b) b.natAbs ⟨a.natAbs, rfl, rfl, rfl⟩ (fun m S g hI => ?_)
  obtain ⟨x, rfl, rfl, hg⟩ := hI
  by_cases hm : m = 0
  · subst hm
    refine .stop ((xt_gt (xe_var 1 rfl) xe_int).to rfl) (xb_one (xs_ret (XE.to (xe_var 0 rfl) ?_)))
    rw [← hg, Nat.gcd_zero_right]
  · refine .go ((xt_gt (xe_var 1 rfl) xe_int).to (decide_eq_true (by omega))) (.next (xb_one (xs_par 0 1 (xd_cons (xe_var 1 rfl) (xd_cons (xe_mod (xe_int1 (xe_var 0 rfl) T.int) (xe_var 1 rfl) (by omega)) xd_nil)) sc_law_shared.nd)) ⟨x % m, Nat.mod_lt _ (by omega), m, ?_, rfl, ?_⟩)
    · show [Sl.v (.int m), Sl.v (.int ((x : Int) % (m : Int)))] = _
      rw [← Int.natCast_emod]
    · rw [← hg, Nat.gcd_comm x m, Nat.gcd_rec m x, Nat.gcd_comm]
namespace FK
theorem div_eq (k : FK) {a b y : k.α} (hb : b ≠ k.zero) (h : k.mul y b = a) : y = k.mul a (k.inv b) := by
  rw [← h, k.mul_assoc, k.mul_inv b hb, k.mul_one]
theorem div_mul (k : FK) {a b : k.α} (hb : b ≠ k.zero) : k.mul (k.mul a (k.inv b)) b = a := by
  rw [k.mul_assoc, k.inv_mul b hb, k.mul_one]
end FK
theorem one_head {α : Type} (t : α → Bool) (x : α) : ∀ (l : List α), x ∈ l → t x = true → (∀ y ∈ l, t y = true → y = x) → ∃ r, l.filter t = x :: r := fun l hx ht hu => by
  cases h : l.filter t with
  | nil =>
    have : x ∈ l.filter t := List.mem_filter.mpr ⟨hx, ht⟩
    rw [h] at this; cases this
  | cons y r =>
    have hy : y ∈ l.filter t := by rw [h]; exact List.mem_cons_self
    obtain ⟨h1, h2⟩ := List.mem_filter.mp hy
    rw [hu y h1 h2]
    exact ⟨r, rfl⟩
def upto (n : Nat) : List Int := (List.range n).map fun (k : Nat) => (0 : Int) + (k : Int)
theorem rngD_upto (n : Nat) : rngD 0 n = (upto n).map D.int := by
  unfold rngD upto
  rw [List.map_map]
  rfl
theorem mem_upto {n : Nat} {i : Int} : i ∈ upto n ↔ 0 ≤ i ∧ i < n := by
  unfold upto
  rw [List.mem_map]
  constructor
  · rintro ⟨k, hk, rfl⟩
    rw [List.mem_range] at hk
    omega
  · intro h
    exact ⟨i.toNat, List.mem_range.mpr (by omega), by omega⟩
theorem upto_len (n : Nat) : (upto n).length = n := by unfold upto; rw [List.length_map, List.length_range]
/-- fractions of a bottom that may be below 0, where it is told so already; remainders -/
def R_law_number (ds : List D) (d : D) : Prop :=
  (∃ (t : Int) (b : Nat), ds = [.int 0, .int t, .int b] ∧ 0 < b ∧ b < 2 ^ 8000 ∧ d = fracD (mkRat t b)) ∨
  (∃ (t b : Int), ds = [.int 0, .int t, .int b] ∧ b < 0 ∧ Int.gcd t b = 1 ∧ d = .tup [.int (-t), .int (-b)]) ∨
  (∃ (p : Nat) (h : p ∈ P100) (a b : (FK.mod p h).α), ds = [.int p, (FK.mod p h).rep a, (FK.mod p h).rep b] ∧ b ≠ (FK.mod p h).zero ∧ d = (FK.mod p h).rep ((FK.mod p h).mul a ((FK.mod p h).inv b)))
theorem d_law_number (T : Txt mg) (raw : Raw K mg "_law_number" s_law_number ["field", "top", "bottom"]) (D1 : Def P w K mg base 1 "_law_shared" s_law_shared ["one", "other"] (spP K R_common_divisor)) : Def P w K mg base 2 "_law_number" s_law_number ["field", "top", "bottom"] (spP K R_law_number) := by
  refine raw.d fun f fd Fn => fnP Fn sc_law_number (fun ds d h => by rcases h with ⟨_, _, h, _⟩ | ⟨_, _, h, _⟩ | ⟨_, _, _, _, h, _⟩ <;> (rw [h] <;> rfl)) fun cdv A outer s H E ds d hr hR Fm hF => ?_
  rcases hR with ⟨t, b, rfl, hb, hb2, rfl⟩ | ⟨t, b, rfl, hb, hg1, rfl⟩ | ⟨p, h, a, b, rfl, hb, rfl⟩
  · have hg : Int.gcd t b = Nat.gcd b t.natAbs := by rw [Int.gcd, Int.natAbs_natCast, Nat.gcd_comm]
    have hgp : 0 < Int.gcd t b := by rw [hg]; exact Nat.gcd_pos_of_pos_left _ hb
    have hgl : Int.gcd t b < 2 ^ 8000 := by rw [hg]; exact Nat.lt_of_le_of_lt (Nat.gcd_le_left _ hb) hb2
    refine xb_ifT ((xt_eqI (xe_var 0 rfl) xe_int).to rfl) ?_
    refine xb_cons (xs_set 3 (xe_call D1 hr (xd_cons (xe_var 1 rfl) (xd_cons (xe_var 2 rfl) xd_nil)) ⟨_, _, rfl, rfl⟩) sc_law_number.nd) ?_
    refine xb_cons (xs_set 3 (xe_ifF ((xt_lt (xe_var 2 rfl) xe_int).to (decide_eq_false (by omega))) (xe_var 3 rfl)) sc_law_number.nd) ?_
    refine xb_one (xs_ret (XE.to (xe_tup (xd_cons (xe_div (xe_var 1 rfl) (xe_var 3 rfl) (cdivW hgp hgl)) (xd_cons (xe_div (xe_var 2 rfl) (xe_var 3 rfl) (cdivW hgp hgl)) xd_nil))) ?_))
    show D.tup [.int (t / (Int.gcd t b : Nat)), .int ((b : Int) / (Int.gcd t b : Nat))] = D.tup [.int (mkRat t b).num, .int ((mkRat t b).den : Nat)]
    rw [Rat.num_mkRat, Rat.den_mkRat, if_neg (by omega), if_neg (by omega), hg, Int.natCast_ediv]
  · refine xb_ifT ((xt_eqI (xe_var 0 rfl) xe_int).to rfl) ?_
    refine xb_cons (xs_set 3 (d := .int 1) (XE.to (xe_call D1 hr (xd_cons (xe_var 1 rfl) (xd_cons (xe_var 2 rfl) xd_nil)) ⟨_, _, rfl, rfl⟩) (by rw [hg1] <;> rfl)) sc_law_number.nd) ?_
    refine xb_cons (xs_set 3 (xe_ifT ((xt_lt (xe_var 2 rfl) xe_int).to (decide_eq_true hb)) (XE.to (y := .int (-1)) (xe_sub xe_int (xe_var 3 rfl)) rfl)) sc_law_number.nd) ?_
    have c1 : ∀ i : Int, CDivN i (-1) := fun i => ⟨by decide, by decide⟩
    refine xb_one (xs_ret (XE.to (xe_tup (xd_cons (xe_divN (xe_var 1 rfl) (xe_var 3 rfl) (c1 _)) (xd_cons (xe_divN (xe_var 2 rfl) (xe_var 3 rfl) (c1 _)) xd_nil))) ?_))
    have e : ∀ i : Int, i.fdiv (-1) = -i := fun i => by rw [Int.fdiv_neg (by decide)]; simp
    rw [e, e]
  · have hpp := P100_two p h
    refine xb_ifF ((xt_eqI (xe_var 0 rfl) xe_int).to (eq_f (f_ne h))) ?_
    obtain ⟨y, hy⟩ : ∃ y, y = (FK.mod p h).mul a ((FK.mod p h).inv b) := ⟨_, rfl⟩
    rw [← hy]
    have hyb : (FK.mod p h).mul y b = a := by rw [hy]; exact FK.div_mul _ hb
    have hyb' : (y.val * b.val) % p = a.val := congrArg _root_.Fin.val hyb
    have test : ∀ n : Nat, n < p → (((n : Int) * ((b.val : Nat) : Int) - ((a.val : Nat) : Int)) % (p : Nat) = 0 ↔ n = y.val) := fun n hn => by
      have ha := a.isLt
      have key : ((n : Int) * ((b.val : Nat) : Int) - ((a.val : Nat) : Int)) % (p : Nat) = 0 ↔ (n * b.val) % p = a.val := by
        rw [← Int.natCast_mul]
        rw [← Int.emod_eq_emod_iff_emod_sub_eq_zero, ← Int.natCast_emod, ← Int.natCast_emod, Nat.mod_eq_of_lt ha]
        omega
      rw [key]
      constructor
      · intro e
        have : (⟨n, hn⟩ : (FK.mod p h).α) = y := by rw [hy]; exact FK.div_eq (FK.mod p h) hb (FK.fin_ext e)
        rw [← this]
      · intro e; rw [e]; exact hyb'
    obtain ⟨r, hrr⟩ := one_head (fun n : Int => decide ((n * ((b.val : Nat) : Int) - ((a.val : Nat) : Int)) % (p : Nat) = 0)) (y.val : Int) (upto p) (mem_upto.mpr ⟨by omega, by have := y.isLt; omega⟩) (decide_eq_true ((test _ y.isLt).mpr rfl)) (fun z hz ht => by
      obtain ⟨z0, z1⟩ := mem_upto.mp hz
      obtain ⟨n, rfl⟩ := Int.eq_ofNat_of_zero_le z0
      rw [(test n (by omega)).mp (of_decide_eq_true ht)])
    have hrl : (((y.val : Nat) : Int) :: r).length ≤ p := by rw [← hrr]; exact Nat.le_trans (List.length_filter_le _ _) (by rw [upto_len]; exact Nat.le_refl _)
    have hpi : (0 : Int) < (p : Nat) := by omega
    refine xb_consF (g1 := ([], 0)) 4 (xs_lcR1 4 [("number", 5)] sc_law_number.nd (j := ((p : Nat) : Int)) (xd_cons (xe_var 0 rfl) xd_nil) (by omega) (ys := (((y.val : Nat) : Int) :: r).map D.int) ?_ ?_ (blkOk_by (N := N_law_number) (sc := defScope s_law_number) (by decide +kernel)) T.range (sw_true rfl rfl rfl (by decide +kernel))) ?_
    · rw [Int.toNat_natCast, rngD_upto, ← hrr]
      refine lr_filterI _ _ (fun n hn ht => ?_) (fun n hn ht => ?_)
      · obtain ⟨n0, n1⟩ := mem_upto.mp hn
        exact lstepT (outs_set (i := 5) outs_refl) (fun s H C cl fp => xl_name 5 sc_law_number.nd) (fun T' s H C cl fp => xt_eqI (xe_mod (xe_int1 (xe_sub (xe_mul (xe_var 5 rfl) (xe_var 2 rfl) (mSmall (by omega) (small_p h b.val b.isLt))) (xe_var 1 rfl)) T.int) (xe_var 0 rfl) hpi) xe_int) (fun T' s H C cl fp => xe_var 5 rfl) ht
      · obtain ⟨n0, n1⟩ := mem_upto.mp hn
        exact lstepF (outs_set (i := 5) outs_refl) (fun s H C cl fp => xl_name 5 sc_law_number.nd) (fun T' s H C cl fp => xt_eqI (xe_mod (xe_int1 (xe_sub (xe_mul (xe_var 5 rfl) (xe_var 2 rfl) (mSmall (by omega) (small_p h b.val b.isLt))) (xe_var 1 rfl)) T.int) (xe_var 0 rfl) hpi) xe_int) ht
    · rw [List.length_map]
      exact Nat.lt_of_le_of_lt hrl (Nat.lt_trans hpp.2 (by decide))
    · exact xb_one (xs_ret (xe_ix (xe_var 4 rfl) xe_int (atI_nat (j := 0) rfl)))
end
end Z
namespace Z
open PySem PySem.Spec PyProof.Rows L2
section
variable {P : Program} {w : World} {K : PySem.W.Frag} {mg : Str → Option Value} {base : Heap}
/-! _law_plus, _law_by, _law_less, _law_over -/
theorem den_mul_lt {a b : Rat} (ha : FK.rat.sz 3000 a) (hb : FK.rat.sz 3000 b) : a.den * b.den < 2 ^ 8000 :=
  Nat.lt_of_lt_of_le (FK.nat_mul_lt ha.2 hb.2) (Nat.pow_le_pow_right (by decide) (by decide))
theorem d_law_plus (T : Txt mg) (raw : Raw K mg "_law_plus" s_law_plus ["field", "one", "other"]) (D1 : Def P w K mg base 2 "_law_number" s_law_number ["field", "top", "bottom"] (spP K R_law_number)) : Def P w K mg base 3 "_law_plus" s_law_plus ["field", "one", "other"] (spP K R_plus) := by
  refine raw.d fun f fd Fn => fnP Fn sc_law_plus (fun ds d ⟨k, a, b, h, _⟩ => by rw [h] <;> rfl) fun cdv A outer s H E ds d hr hR Fm hF => ?_
  obtain ⟨k, a, b, rfl, ha, hb, rfl⟩ := hR
  cases k with
  | rat =>
    refine xb_ifF ((xt_gt (xe_var 0 rfl) xe_int).to rfl) ?_
    refine xb_one (xs_ret (xe_call D1 hr (xd_cons xe_int (xd_cons (xe_add (xe_mul (xe_ix (xe_var 1 rfl) xe_int rfl) (xe_ix (xe_var 2 rfl) xe_int rfl) (m3 ha.1 (by exact hb.2))) (xe_mul (xe_ix (xe_var 2 rfl) xe_int rfl) (xe_ix (xe_var 1 rfl) xe_int rfl) (m3 hb.1 (by exact ha.2))))
      (xd_cons ((xe_mul (xe_ix (xe_var 1 rfl) xe_int rfl) (xe_ix (xe_var 2 rfl) xe_int rfl) (m3 (by exact ha.2) (by exact hb.2))).to (by rw [← Int.natCast_mul])) xd_nil))) (.inl ⟨_, _, rfl, Nat.mul_pos (Rat.den_pos a) (Rat.den_pos b), den_mul_lt ha hb, ?_⟩)))
    show fracD (FK.rat.add a b) = _
    rw [show FK.rat.add a b = _ from Rat.add_def' a b]
  | mod p h =>
    refine xb_ifT ((xt_gt (xe_var 0 rfl) xe_int).to (decide_eq_true (by show (0 : Int) < (p : Nat); have := FK.pos h; omega))) (xb_one (xs_ret (XE.to (xe_mod (xe_int1 (xe_add (xe_var 1 rfl) (xe_var 2 rfl)) T.int) (xe_var 0 rfl) (by show (0 : Int) < (p : Nat); have := FK.pos h; omega)) ?_)))
    show D.int ((((a.val : Nat) : Int) + ((b.val : Nat) : Int)) % (p : Nat)) = D.int (((a.val + b.val) % p : Nat) : Int)
    rw [Int.natCast_emod, Int.natCast_add]
theorem d_law_by (T : Txt mg) (raw : Raw K mg "_law_by" s_law_by ["field", "one", "other"]) (D1 : Def P w K mg base 2 "_law_number" s_law_number ["field", "top", "bottom"] (spP K R_law_number)) : Def P w K mg base 3 "_law_by" s_law_by ["field", "one", "other"] (spP K R_times) := by
  refine raw.d fun f fd Fn => fnP Fn sc_law_by (fun ds d ⟨k, a, b, h, _⟩ => by rw [h] <;> rfl) fun cdv A outer s H E ds d hr hR Fm hF => ?_
  obtain ⟨k, a, b, rfl, ha, hb, rfl⟩ := hR
  cases k with
  | rat =>
    refine xb_ifF ((xt_gt (xe_var 0 rfl) xe_int).to rfl) ?_
    refine xb_one (xs_ret (xe_call D1 hr (xd_cons xe_int (xd_cons (xe_mul (xe_ix (xe_var 1 rfl) xe_int rfl) (xe_ix (xe_var 2 rfl) xe_int rfl) (m3 ha.1 hb.1))
      (xd_cons ((xe_mul (xe_ix (xe_var 1 rfl) xe_int rfl) (xe_ix (xe_var 2 rfl) xe_int rfl) (m3 (by exact ha.2) (by exact hb.2))).to (by rw [← Int.natCast_mul])) xd_nil))) (.inl ⟨_, _, rfl, Nat.mul_pos (Rat.den_pos a) (Rat.den_pos b), den_mul_lt ha hb, ?_⟩)))
    show fracD (FK.rat.mul a b) = _
    rw [show FK.rat.mul a b = _ from Rat.mul_def' a b]
  | mod p h =>
    refine xb_ifT ((xt_gt (xe_var 0 rfl) xe_int).to (decide_eq_true (by show (0 : Int) < (p : Nat); have := FK.pos h; omega))) (xb_one (xs_ret (XE.to (xe_mod (xe_int1 (xe_mul (xe_var 1 rfl) (xe_var 2 rfl) (mSmall (small_p h a.val a.isLt) (small_p h b.val b.isLt))) T.int) (xe_var 0 rfl) (by show (0 : Int) < (p : Nat); have := FK.pos h; omega)) ?_)))
    show D.int ((((a.val : Nat) : Int) * ((b.val : Nat) : Int)) % (p : Nat)) = D.int (((a.val * b.val) % p : Nat) : Int)
    rw [Int.natCast_emod, Int.natCast_mul]
def R_minus (ds : List D) (d : D) : Prop := ∃ (k : FK) (a b : k.α), ds = [.int k.f, k.rep a, k.rep b] ∧ k.sz 3000 a ∧ k.sz 3000 b ∧ d = k.rep (k.add a (k.neg b))
theorem d_law_less (T : Txt mg) (raw : Raw K mg "_law_less" s_law_less ["field", "one", "other"]) (D1 : Def P w K mg base 2 "_law_number" s_law_number ["field", "top", "bottom"] (spP K R_law_number)) : Def P w K mg base 3 "_law_less" s_law_less ["field", "one", "other"] (spP K R_minus) := by
  refine raw.d fun f fd Fn => fnP Fn sc_law_less (fun ds d ⟨k, a, b, h, _⟩ => by rw [h] <;> rfl) fun cdv A outer s H E ds d hr hR Fm hF => ?_
  obtain ⟨k, a, b, rfl, ha, hb, rfl⟩ := hR
  cases k with
  | rat =>
    refine xb_ifF ((xt_gt (xe_var 0 rfl) xe_int).to rfl) ?_
    refine xb_one (xs_ret (xe_call D1 hr (xd_cons xe_int (xd_cons (xe_sub (xe_mul (xe_ix (xe_var 1 rfl) xe_int rfl) (xe_ix (xe_var 2 rfl) xe_int rfl) (m3 ha.1 (by exact hb.2))) (xe_mul (xe_ix (xe_var 2 rfl) xe_int rfl) (xe_ix (xe_var 1 rfl) xe_int rfl) (m3 hb.1 (by exact ha.2))))
      (xd_cons ((xe_mul (xe_ix (xe_var 1 rfl) xe_int rfl) (xe_ix (xe_var 2 rfl) xe_int rfl) (m3 (by exact ha.2) (by exact hb.2))).to (by rw [← Int.natCast_mul])) xd_nil))) (.inl ⟨_, _, rfl, Nat.mul_pos (Rat.den_pos a) (Rat.den_pos b), den_mul_lt ha hb, ?_⟩)))
    show fracD (FK.rat.add a (FK.rat.neg b)) = _
    rw [show FK.rat.add a (FK.rat.neg b) = _ from Rat.add_def' a (-b)]
    rw [show (-(b : Rat)).num = -(b : Rat).num from Rat.neg_num b, show (-(b : Rat)).den = (b : Rat).den from Rat.neg_den b, Int.neg_mul, ← Int.sub_eq_add_neg]
  | mod p h =>
    refine xb_ifT ((xt_gt (xe_var 0 rfl) xe_int).to (decide_eq_true (by show (0 : Int) < (p : Nat); have := FK.pos h; omega))) (xb_one (xs_ret (XE.to (xe_mod (xe_int1 (xe_sub (xe_var 1 rfl) (xe_var 2 rfl)) T.int) (xe_var 0 rfl) (by show (0 : Int) < (p : Nat); have := FK.pos h; omega)) ?_)))
    show D.int ((((a.val : Nat) : Int) - ((b.val : Nat) : Int)) % (p : Nat)) = D.int (((a.val + (p - b.val) % p) % p : Nat) : Int)
    have := b.isLt
    rw [Nat.add_mod_mod, Int.natCast_emod, Int.natCast_add, Int.natCast_sub (by omega), show ((a.val : Nat) : Int) + (((p : Nat) : Int) - ((b.val : Nat) : Int)) = (((a.val : Nat) : Int) - ((b.val : Nat) : Int)) + (p : Nat) by omega, Int.add_emod_right]
def R_over (ds : List D) (d : D) : Prop := ∃ (k : FK) (b : k.α), ds = [.int k.f, k.rep k.one, k.rep b] ∧ b ≠ k.zero ∧ k.sz 3000 b ∧ d = k.rep (k.inv b)
theorem d_law_over (raw : Raw K mg "_law_over" s_law_over ["field", "one", "other"]) (D1 : Def P w K mg base 2 "_law_number" s_law_number ["field", "top", "bottom"] (spP K R_law_number)) : Def P w K mg base 3 "_law_over" s_law_over ["field", "one", "other"] (spP K R_over) := by
  refine raw.d fun f fd Fn => fnP Fn sc_law_over (fun ds d ⟨k, b, h, _⟩ => by rw [h] <;> rfl) fun cdv A outer s H E ds d hr hR Fm hF => ?_
  obtain ⟨k, b, rfl, hb0, hb, rfl⟩ := hR
  cases k with
  | rat =>
    have hn : (b : Rat).num ≠ 0 := fun e => hb0 (Rat.num_eq_zero.mp e)
    have e1 : FK.rat.rep (FK.rat.inv b) = .tup [.int ((b : Rat).num.sign * ((b : Rat).den : Nat)), .int (((b : Rat).num.natAbs : Nat))] := by
      show D.tup [.int ((b : Rat)⁻¹).num, .int (((b : Rat)⁻¹).den : Nat)] = _
      rw [Rat.num_inv, Rat.den_inv, if_neg hn]
    have hred : Nat.gcd (b : Rat).num.natAbs (b : Rat).den = 1 := b.reduced
    have one1 : (1 : Int).natAbs < 2 ^ 3000 := by decide +kernel
    refine xb_ifT ((xt_eqI (xe_var 0 rfl) xe_int).to rfl) (xb_one (xs_ret (xe_call D1 hr (xd_cons xe_int (xd_cons (XE.to (y := .int (((b : Rat).den : Nat) : Int)) (xe_mul (xe_ix (xe_var 1 rfl) xe_int (z := .int 1) rfl) (xe_ix (xe_var 2 rfl) xe_int rfl) (m3 one1 (by exact hb.2))) ?_)
      (xd_cons (XE.to (y := .int (b : Rat).num) (xe_mul (xe_ix (xe_var 1 rfl) xe_int (z := .int 1) rfl) (xe_ix (xe_var 2 rfl) xe_int rfl) (m3 one1 (by exact hb.1))) ?_) xd_nil))) ?_)))
    · rw [Int.one_mul]
    · rw [Int.one_mul]
    · rw [e1]
      by_cases hp : 0 < (b : Rat).num
      · refine .inl ⟨(((b : Rat).den : Nat) : Int), (b : Rat).num.natAbs, ?_, by omega, Nat.lt_of_lt_of_le hb.1 (Nat.pow_le_pow_right (by decide) (by decide)), ?_⟩
        · rw [Int.natAbs_of_nonneg (by omega)]
        · unfold fracD
          rw [Rat.num_mkRat, Rat.den_mkRat, if_neg (by omega), if_neg (by omega), Int.natAbs_natCast, hred, Int.sign_eq_one_of_pos hp, Int.one_mul]
          simp
      · refine .inr (.inl ⟨_, _, rfl, by omega, ?_, ?_⟩)
        · rw [Int.gcd, Int.natAbs_natCast, Nat.gcd_comm]; exact hred
        · rw [Int.sign_eq_neg_one_of_neg (by omega), Int.neg_one_mul, Int.ofNat_natAbs_of_nonpos (by omega)]
  | mod p h =>
    refine xb_ifF ((xt_eqI (xe_var 0 rfl) xe_int).to (eq_f (f_ne h))) (xb_one (xs_ret (xe_call D1 hr (xd_cons (xe_var 0 rfl) (xd_cons (xe_var 1 rfl) (xd_cons (xe_var 2 rfl) xd_nil))) (.inr (.inr ⟨p, h, _, b, rfl, hb0, rfl⟩))) ?_))
    rw [FK.one_mul]
theorem d_law_zero (raw : Raw K mg "_law_zero" s_law_zero ["field"]) : Def P w K mg base 1 "_law_zero" s_law_zero ["field"] (spP K R_zero_of) := by
  refine raw.d fun f fd Fn => fnP Fn sc_law_zero (fun ds d ⟨k, h, _⟩ => by rw [h] <;> rfl) fun cdv A outer s H E ds d hr hR Fm hF => ?_
  obtain ⟨k, rfl, rfl⟩ := hR
  cases k with
  | rat => exact xb_one (xs_ret (XE.to (xe_ifF ((xt_gt (xe_var 0 rfl) xe_int).to rfl) (xe_tup (xd_cons xe_int (xd_cons xe_int xd_nil)))) rfl))
  | mod p h =>
    refine xb_one (xs_ret (XE.to (xe_ifT ((xt_gt (xe_var 0 rfl) xe_int).to (decide_eq_true (by show (0 : Int) < (p : Nat); have := FK.pos h; omega))) xe_int) ?_))
    show _ = D.int ((0 % p : Nat) : Int)
    rw [Nat.zero_mod]; rfl
theorem d_law_one (raw : Raw K mg "_law_one" s_law_one ["field"]) : Def P w K mg base 1 "_law_one" s_law_one ["field"] (spP K R_one_of) := by
  refine raw.d fun f fd Fn => fnP Fn sc_law_one (fun ds d ⟨k, h, _⟩ => by rw [h] <;> rfl) fun cdv A outer s H E ds d hr hR Fm hF => ?_
  obtain ⟨k, rfl, rfl⟩ := hR
  cases k with
  | rat => exact xb_one (xs_ret (XE.to (xe_ifF ((xt_gt (xe_var 0 rfl) xe_int).to rfl) (xe_tup (xd_cons xe_int (xd_cons xe_int xd_nil)))) rfl))
  | mod p h =>
    refine xb_one (xs_ret (XE.to (xe_ifT ((xt_gt (xe_var 0 rfl) xe_int).to (decide_eq_true (by show (0 : Int) < (p : Nat); have := FK.pos h; omega))) xe_int) ?_))
    show _ = D.int ((1 % p : Nat) : Int)
    rw [Nat.mod_eq_of_lt (by have := (P100_two p h).1; omega)]; rfl
/-! _law_primes -/
def sv : Nat → List Int × List Int
  | 0 => ((List.range 98).map fun (k : Nat) => (2 : Int) + (k : Int), [])
  | n + 1 => match sv n with
    | ([], f) => ([], f)
    | (x :: r, f) => ((x :: r).filter (fun n => decide (0 < n % x)), f ++ [x])
theorem sv_end : sv 25 = ([], P100.map fun (k : Nat) => (k : Int)) := by decide +kernel
def svOk : List Int → Bool | [] => false | x :: r => decide (0 < x) && decide (r.length < 100)
theorem sv_go : ∀ n < 25, svOk (sv n).1 = true := by decide +kernel
theorem sv_len : ∀ n < 26, (sv n).2.length = n := by decide +kernel
def primesD : List D := P100.map fun (p : Nat) => D.int (p : Int)
def R_primes (ds : List D) (d : D) : Prop := ds = [] ∧ d = .lst primesD
theorem d_law_primes (T : Txt mg) (raw : Raw K mg "_law_primes" s_law_primes []) : Def P w K mg base 1 "_law_primes" s_law_primes [] (spP K R_primes) := by
  refine raw.d fun f fd Fn => fnP Fn sc_law_primes (fun ds d ⟨h, _⟩ => by rw [h] <;> rfl) fun cdv A outer s H E ds d hr hR Fm hF => ?_
  obtain ⟨rfl, rfl⟩ := hR
  refine xb_cons (xs_set 0 (d := .lst ((sv 0).1.map D.int)) (XE.to (XN.val (xn_listR2 xe_int xe_int (by refine ⟨by decide, by decide, ?_⟩ <;> decide) T.range T.list)) ?_) sc_law_primes.nd) ?_
  · refine congrArg D.lst ?_
    show rngD 2 98 = _
    unfold sv rngD
    rw [List.map_map]
    rfl
  refine xb_cons (xs_setN 1 (xn_lst xd_nil) sc_law_primes.nd) ?_
  refine xb_while (fun m S g => ∃ (n : Nat) (s2 : Sl), n + m = 25 ∧ S = [.v (.lst ((sv n).1.map D.int)), .own ((sv n).2.map D.int), s2] ∧ g = ([], 0)) 25 ⟨0, .un, rfl, rfl, rfl⟩ (fun m S g hI => ?_)
  obtain ⟨n, s2, hn, rfl, rfl⟩ := hI
  rcases Nat.lt_or_ge n 25 with hlt | hge
  · have hgo := sv_go n hlt
    have hlen := sv_len n (by omega)
    have hs : sv (n + 1) = match sv n with | ([], f) => ([], f) | (x :: r, f) => ((x :: r).filter (fun n => decide (0 < n % x)), f ++ [x]) := rfl
    cases hsv : sv n with
    | mk l fo =>
      rw [hsv] at hgo hlen hs
      cases l with
      | nil => cases hgo
      | cons x r =>
        obtain ⟨hx, hrl⟩ : 0 < x ∧ r.length < 100 := by
          have : (decide (0 < x) && decide (r.length < 100)) = true := hgo
          rw [Bool.and_eq_true] at this
          exact ⟨of_decide_eq_true this.1, of_decide_eq_true this.2⟩
        have hs' : sv (n + 1) = ((x :: r).filter (fun n => decide (0 < n % x)), fo ++ [x]) := hs
        have hfl : fo.length < 25 := by have : fo.length = n := hlen; omega
        have hat : atI ((fo ++ [x]).map D.int) (-1) = some (.int x) := by rw [List.map_append]; exact atI_last _ _
        refine .go ((xt_gt (xe_len (xe_var 0 rfl) rfl T.len) xe_int).to (decide_eq_true (by rw [List.length_map, List.length_cons]; omega))) (.next (S' := [.v (.lst (((x :: r).filter (fun n => decide (0 < n % x))).map D.int)), .own ((fo ++ [x]).map D.int), .un]) (g' := ([], 0)) ?_ ⟨m - 1, by omega, n + 1, .un, by omega, by rw [hs'], rfl⟩)
        refine xb_forget 2 (xb_cons (xs_app 1 rfl (xe_ix (xe_var 0 rfl) xe_int (atI_nat (j := 0) rfl)) ?_) ?_)
        · rw [List.length_map]; exact Nat.lt_trans hfl (by decide)
        refine xb_is (S1 := [.v (.lst ((x :: r).map D.int)), .own ((fo ++ [x]).map D.int), .un]) ?_ (by rw [List.map_append]; rfl)
        refine xb_consF 0 (xs_lcL 0 [("number", 2)] sc_law_primes.nd (xe_var 0 rfl) (lr_filterI (fun n => decide (0 < n % x)) (x :: r) (fun n _ ht => ?_) (fun n _ ht => ?_)) ?_ (blkOk_by (N := N_law_primes) (sc := defScope s_law_primes) (by decide +kernel)) (sw_true rfl rfl rfl (by decide +kernel))) xb_nil
        · exact lstepT (outs_set (i := 2) outs_refl) (fun s H C cl fp => xl_name 2 sc_law_primes.nd) (fun T' s H C cl fp => xt_gt (xe_mod (xe_int1 (xe_var 2 rfl) T.int) (xe_ixO 1 rfl (xe_neg xe_int) hat) hx) xe_int) (fun T' s H C cl fp => xe_var 2 rfl) ht
        · exact lstepF (outs_set (i := 2) outs_refl) (fun s H C cl fp => xl_name 2 sc_law_primes.nd) (fun T' s H C cl fp => xt_gt (xe_mod (xe_int1 (xe_var 2 rfl) T.int) (xe_ixO 1 rfl (xe_neg xe_int) hat) hx) xe_int) ht
        · rw [List.length_map]
          exact Nat.lt_of_le_of_lt (List.length_filter_le _ _) (Nat.lt_trans (m := 101) (by rw [List.length_cons]; omega) (by decide))
  · have : n = 25 := by omega
    subst this
    rw [sv_end]
    refine .stop ((xt_gt (xe_len (xe_var 0 rfl) rfl T.len) xe_int).to rfl) (xb_frz 1 rfl (xb_one (xs_ret (xe_var 1 rfl) ?_)))
    unfold primesD
    rw [List.map_map]
    rfl
end
end Z
namespace Z
open PySem PySem.Spec PyProof.Rows L2
section
variable {P : Program} {w : World} {K : PySem.W.Frag} {mg : Str → Option Value} {base : Heap}
/-! _law_great -/
def mosts : List Int := [3, 10, 10 ^ 6, 10 ^ 40]
def mostAt (i : Int) : Int := mosts.getD i.toNat 3
def greatF (g : DS) : Rat × DS :=
  (mkRat ((anyF (anyF g 4).2 (2 * mostAt (anyF g 4).1)).1 - mostAt (anyF g 4).1) (1 + (anyF (anyF (anyF g 4).2 (2 * mostAt (anyF g 4).1)).2 (mostAt (anyF g 4).1)).1).toNat,
    (anyF (anyF (anyF g 4).2 (2 * mostAt (anyF g 4).1)).2 (mostAt (anyF g 4).1)).2)
theorem mostAt_in {i : Int} (h0 : 0 ≤ i) (h4 : i < 4) : 0 < mostAt i ∧ mostAt i < 2 ^ 135 ∧ (mosts.map D.int)[i.toNat]? = some (.int (mostAt i)) := by
  obtain ⟨n, rfl⟩ := Int.eq_ofNat_of_zero_le h0
  have h : n < 4 := by omega
  have key : ∀ n < 4, (0 < mostAt (n : Nat) ∧ mostAt (n : Nat) < 2 ^ 135) ∧ mosts[n]? = some (mostAt (n : Nat)) := by decide +kernel
  obtain ⟨h1, h2⟩ := key n h
  refine ⟨h1.1, h1.2, ?_⟩
  rw [Int.toNat_natCast, List.getElem?_map, h2]
  rfl
theorem great_good {g : DS} (h : Good g) : FK.rat.sz 140 (greatF g).1 ∧ Good (greatF g).2 := by
  obtain ⟨⟨a0, a1⟩, ga⟩ := any_good h (show (0 : Int) < 4 by decide)
  obtain ⟨m0, m1, _⟩ := mostAt_in a0 a1
  obtain ⟨⟨t0, t1⟩, gt⟩ := any_good ga (show 0 < 2 * mostAt (anyF g 4).1 by omega)
  obtain ⟨⟨b0, b1⟩, gb⟩ := any_good gt m0
  refine ⟨?_, gb⟩
  have e : (2 : Nat) ^ 136 < 2 ^ 140 := by decide +kernel
  have e2 : (2 : Int) ^ 135 + 2 ^ 135 ≤ ((2 ^ 136 : Nat) : Int) := by decide +kernel
  refine ⟨Nat.lt_of_le_of_lt (FK.mk_num_le _ _) (Nat.lt_trans (m := 2 ^ 136) ?_ e), Nat.lt_of_le_of_lt (FK.mk_den_le _ _ ?_) (Nat.lt_trans (m := 2 ^ 136) ?_ e)⟩
  · generalize (2 : Nat) ^ 136 = X at *
    generalize (2 : Int) ^ 135 = Y at *
    omega
  · omega
  · generalize (2 : Nat) ^ 136 = X at *
    generalize (2 : Int) ^ 135 = Y at *
    omega
def R_great (as : List Ar) (g : DS) (d : D) (g' : DS) : Prop := as = [.dl] ∧ Good g ∧ d = FK.rat.rep (greatF g).1 ∧ g' = (greatF g).2
theorem d_law_great (raw : Raw K mg "_law_great" s_law_great ["deal"]) (D1 : Def P w K mg base 1 "_law_any" s_law_any ["deal", "bound"] (spD K R_any)) (D2 : Def P w K mg base 2 "_law_of" s_law_of ["deal", "some"] (spD K R_of)) (D3 : Def P w K mg base 2 "_law_number" s_law_number ["field", "top", "bottom"] (spP K R_law_number)) :
    Def P w K mg base 3 "_law_great" s_law_great ["deal"] (spD K R_great) := by
  refine raw.d fun f fd Fn => fnD Fn sc_law_great (fun as g d g' ⟨h, _⟩ => by rw [h] <;> rfl) fun cdv A outer s H E as g d g' hr hR Fm hd => ?_
  obtain ⟨rfl, hG, rfl, rfl⟩ := hR
  obtain ⟨⟨a0, a1⟩, ga⟩ := any_good hG (show (0 : Int) < 4 by decide)
  obtain ⟨m0, m1, hm⟩ := mostAt_in a0 a1
  have hm8 : mostAt (anyF g 4).1 < 2 ^ 8000 := Int.lt_trans m1 (by decide +kernel)
  have h2m8 : 2 * mostAt (anyF g 4).1 < 2 ^ 8000 := by
    have : (2 : Int) * 2 ^ 135 < 2 ^ 8000 := by decide +kernel
    omega
  obtain ⟨⟨t0, t1⟩, gt⟩ := any_good ga (show 0 < 2 * mostAt (anyF g 4).1 by omega)
  obtain ⟨⟨b0, b1⟩, gb⟩ := any_good gt m0
  have p1 : CPow 10 6 := ⟨by decide, by decide, by decide⟩
  have p2 : CPow 10 40 := ⟨by decide, by decide, by decide⟩
  refine xb_cons (xs_set 1 (xe_callD D2 hr (xa_dl 0 rfl (xa_cons (XN.val (xn_lst (xd_cons xe_int (xd_cons xe_int (xd_cons (xe_pow xe_int xe_int p1) (xd_cons (xe_pow xe_int xe_int p2) xd_nil)))))) xa_nil)) ⟨_, mosts.map D.int, rfl, .inl rfl, by decide, by decide, hG, hm, rfl⟩ hd) sc_law_great.nd) ?_
  refine xb_one (xs_ret (xe_call D3 hr (xd_cons xe_int (xd_cons (xe_sub (xe_callD D1 hr (xa_dl 0 rfl (xa_cons (xe_mul xe_int (xe_var 1 rfl) (m3 ?_ ?_)) xa_nil)) ⟨_, rfl, by omega, h2m8, ga, rfl, rfl⟩ hd) (xe_var 1 rfl))
    (xd_cons (XE.to (y := .int (((1 + (anyF (anyF (anyF g 4).2 (2 * mostAt (anyF g 4).1)).2 (mostAt (anyF g 4).1)).1).toNat : Nat) : Int)) (xe_add xe_int (xe_callD D1 hr (xa_dl 0 rfl (xa_cons (xe_var 1 rfl) xa_nil)) ⟨_, rfl, m0, hm8, gt, rfl, rfl⟩ hd)) ?_) xd_nil))) (.inl ⟨_, _, rfl, ?_, ?_, rfl⟩)))
  · decide +kernel
  · have e : (2 : Int) ^ 135 < ((2 ^ 3000 : Nat) : Int) := by decide +kernel
    generalize (2 : Nat) ^ 3000 = X at *
    omega
  · rw [Int.toNat_of_nonneg (by omega)] <;> rfl
  · omega
  · have e : 1 + (2 : Int) ^ 135 < ((2 ^ 8000 : Nat) : Int) := by decide +kernel
    generalize (2 : Nat) ^ 8000 = X at *
    omega
/-! _law_text -/
theorem d_law_text (T : Txt mg) (raw : Raw K mg "_law_text" s_law_text ["field", "number"]) : Def P w K mg base 1 "_law_text" s_law_text ["field", "number"] (spP K R_number_text) := by
  refine raw.d fun f fd Fn => fnP Fn sc_law_text (fun ds d ⟨k, a, h, _⟩ => by rw [h] <;> rfl) fun cdv A outer s H E ds d hr hR Fm hF => ?_
  obtain ⟨k, a, rfl, ha, rfl⟩ := hR
  cases k with
  | rat =>
    refine xb_ifF ((xt_gt (xe_var 0 rfl) xe_int).to rfl) ?_
    have hd : ((((a : Rat).den : Nat) : Int)).natAbs < 2 ^ 1900 := ha.2
    by_cases h1 : (a : Rat).den = 1
    · refine xb_one (xs_ret (xe_ifT ((xt_eqI (xe_ix (xe_var 1 rfl) xe_int rfl) xe_int).to (decide_eq_true (by rw [h1] <;> rfl))) (XE.to (xe_strI (xe_ix (xe_var 1 rfl) xe_int rfl) (log_lt ha.1) T.str) ?_)))
      show D.str _ = D.str (if (a : Rat).den = 1 then _ else _)
      rw [if_pos h1]
    · have e1 := text_len ha.1
      have e2 := text_len hd
      have e3 : (Str.ofString "/").length = 1 := by decide +kernel
      have e4 : (5000 : Nat) ≤ sizeLine := by decide
      refine xb_one (xs_ret (xe_ifF ((xt_eqI (xe_ix (xe_var 1 rfl) xe_int rfl) xe_int).to (decide_eq_false (by omega))) (XE.to (xe_addS (xe_addS (xe_strI (xe_ix (xe_var 1 rfl) xe_int rfl) (log_lt ha.1) T.str) xe_str ?_) (xe_strI (xe_ix (xe_var 1 rfl) xe_int rfl) (log_lt hd) T.str) ?_) ?_)))
      · show (Str.ofString _).length + (Str.ofString "/").length ≤ _
        omega
      · rw [str_len_app]
        show (Str.ofString _).length + (Str.ofString "/").length + (Str.ofString _).length ≤ _
        omega
      · show D.str _ = D.str (if (a : Rat).den = 1 then _ else _)
        rw [if_neg h1] <;> rfl
  | mod p h =>
    exact xb_ifT ((xt_gt (xe_var 0 rfl) xe_int).to (decide_eq_true (by show (0 : Int) < (p : Nat); have := FK.pos h; omega))) (xb_one (xs_ret (xe_strI (xe_var 1 rfl) (log_lt (Nat.lt_of_lt_of_le (small_p h a.val a.isLt) (Nat.pow_le_pow_right (by decide) (by decide)))) T.str)))
end
end Z
namespace Z
open PySem PySem.Spec PyProof.Rows L2
section
namespace FK
theorem shaped (k : FK) (a : k.α) : SeqAt.shaped (k.rep a).py = true := by
  cases k with
  | rat => rfl
  | mod p h => rfl
theorem eqv (k : FK) (a b : k.α) : PyData.eqv (k.rep a).py (k.rep b).py = decide (a = b) := by
  cases k with
  | rat =>
    show PyData.eqv (.tuple [.int (a : Rat).num, .int ((a : Rat).den : Nat)]) (.tuple [.int (b : Rat).num, .int ((b : Rat).den : Nat)]) = _
    simp only [PyData.eqv, PyData.eqvAll, Bool.and_true]
    rw [Bool.eq_iff_iff, Bool.and_eq_true, beq_iff_eq, beq_iff_eq, decide_eq_true_eq]
    exact ⟨fun ⟨h1, h2⟩ => Rat.ext h1 (by omega), fun h => by rw [h]; exact ⟨rfl, rfl⟩⟩
  | mod p h =>
    show PyData.eqv (.int (a.val : Nat)) (.int (b.val : Nat)) = _
    simp only [PyData.eqv]
    rw [Bool.eq_iff_iff, beq_iff_eq, decide_eq_true_eq]
    exact ⟨fun e => fin_ext (by omega), fun h => by rw [h]⟩
end FK
def pairsF (k : FK) (a b c : k.α) : List D :=
  [k.rep (k.add a b), k.rep (k.mul a b), k.rep (k.neg a), k.rep (k.add (k.add a b) c), k.rep (k.mul a (k.add b c)), k.rep k.zero, k.rep a, k.rep k.zero, k.rep a] ++ ((if a = k.zero then [] else [k.rep (k.inv a), k.rep k.one, k.rep a]) ++ [.str (k.text a), .bl true])
def R_pairs (ds : List D) (d : D) : Prop := ∃ (k : FK) (a b c : k.α) (n : Bool), ds = [.int k.f, k.rep a, k.rep b, k.rep c, .bl n] ∧ k.sz 150 a ∧ k.sz 150 b ∧ k.sz 150 c ∧ d = .lst ((pairsF k a b c).map prD)
/-- what the walk of _law_pairs rests on -/
structure PairDefs (P : Program) (w : World) (K : PySem.W.Frag) (mg : Str → Option Value) (base : Heap) : Prop where
  plus : Def P w K mg base 3 "plus" s_plus ["field", "one", "other"] (spP K R_plus)
  times : Def P w K mg base 3 "times" s_times ["field", "one", "other"] (spP K R_times)
  opposite : Def P w K mg base 1 "opposite" s_opposite ["field", "number"] (spP K R_opposite)
  inverse : Def P w K mg base 2 "inverse" s_inverse ["field", "number"] (spP K R_inverse)
  zero_of : Def P w K mg base 1 "zero_of" s_zero_of ["field"] (spP K R_zero_of)
  one_of : Def P w K mg base 1 "one_of" s_one_of ["field"] (spP K R_one_of)
  number_text : Def P w K mg base 1 "number_text" s_number_text ["field", "number"] (spP K R_number_text)
  is_number_of : Def P w K mg base 3 "is_number_of" s_is_number_of ["field", "value"] (spP K R_is_number_of)
  law_plus : Def P w K mg base 3 "_law_plus" s_law_plus ["field", "one", "other"] (spP K R_plus)
  law_by : Def P w K mg base 3 "_law_by" s_law_by ["field", "one", "other"] (spP K R_times)
  law_less : Def P w K mg base 3 "_law_less" s_law_less ["field", "one", "other"] (spP K R_minus)
  law_over : Def P w K mg base 3 "_law_over" s_law_over ["field", "one", "other"] (spP K R_over)
  law_zero : Def P w K mg base 1 "_law_zero" s_law_zero ["field"] (spP K R_zero_of)
  law_one : Def P w K mg base 1 "_law_one" s_law_one ["field"] (spP K R_one_of)
  law_text : Def P w K mg base 1 "_law_text" s_law_text ["field", "number"] (spP K R_number_text)
variable {P : Program} {w : World} {K : PySem.W.Frag} {mg : Str → Option Value} {base : Heap}
theorem d_law_pairs (raw : Raw K mg "_law_pairs" s_law_pairs ["field", "one", "other", "third", "is_named"]) (E : PairDefs P w K mg base) : Def P w K mg base 4 "_law_pairs" s_law_pairs ["field", "one", "other", "third", "is_named"] (spP K R_pairs) := by
  refine raw.d fun f fd Fn => fnP Fn sc_law_pairs (fun ds d ⟨k, a, b, c, n, h, _⟩ => by rw [h] <;> rfl) fun cdv A outer s H E' ds d hr hR Fm hF => ?_
  obtain ⟨k, a, b, c, n, rfl, ha, hb, hc, rfl⟩ := hR
  have h3 : ∀ {m : Nat} {x : k.α}, k.sz m x → m ≤ 3000 → k.sz 3000 x := fun h l => k.sz_mono h l
  have a3 : k.sz 3000 a := h3 ha (by decide)
  have b3 : k.sz 3000 b := h3 hb (by decide)
  have c3 : k.sz 3000 c := h3 hc (by decide)
  have ab3 : k.sz 3000 (k.add a b) := h3 (k.sz_add ha hb) (by decide)
  have ba3 : k.sz 3000 (k.add b a) := h3 (k.sz_add hb ha) (by decide)
  have bc3 : k.sz 3000 (k.add b c) := h3 (k.sz_add hb hc) (by decide)
  have mab3 : k.sz 3000 (k.mul a b) := h3 (k.sz_mul ha hb) (by decide)
  have mca3 : k.sz 3000 (k.mul c a) := h3 (k.sz_mul hc ha) (by decide)
  have na3 : k.sz 3000 (k.neg a) := h3 (k.sz_neg ha) (by decide)
  have z3 : k.sz 3000 k.zero := k.sz_zero (by decide)
  have o3 : k.sz 3000 k.one := k.sz_one (by decide)
  have i3 : k.sz 3000 (k.inv a) := h3 (k.sz_inv ha (by decide)) (by decide)
  have a19 : k.sz 1900 a := k.sz_mono ha (by decide)
  -- pairs, a few
  refine xb_cons (xs_setN 5 (xn_lst (xd_cons (xe_tup (xd_cons (xe_if (xt_not (xt_val (xe_var 4 rfl))) (fun h => (xe_call E.plus hr (xd_cons (xe_var 0 rfl) (xd_cons (xe_var 1 rfl) (xd_cons (xe_var 2 rfl) xd_nil))) ⟨k, a, b, rfl, a3, b3, rfl⟩)) (fun h => (xe_callK0 [2, 1, 0] ["other", "one", "field"] E.plus hr (xk_cons (xe_var 2 rfl) (xk_cons (xe_var 1 rfl) (xk_cons (xe_var 0 rfl) xk_nil))) ⟨k, a, b, rfl, a3, b3, rfl⟩ (fun _ _ _ _ _ _ ws hl => match ws, hl with | [_, _, _], _ => rfl)))) (xd_cons (xe_call E.law_plus hr (xd_cons (xe_var 0 rfl) (xd_cons (xe_var 1 rfl) (xd_cons (xe_var 2 rfl) xd_nil))) ⟨k, a, b, rfl, a3, b3, rfl⟩) xd_nil))) xd_nil)) sc_law_pairs.nd) ?_
  refine xb_cons (xs_app 5 rfl (xe_tup (xd_cons (xe_if (xt_not (xt_val (xe_var 4 rfl))) (fun h => (xe_call E.times hr (xd_cons (xe_var 0 rfl) (xd_cons (xe_var 1 rfl) (xd_cons (xe_var 2 rfl) xd_nil))) ⟨k, a, b, rfl, a3, b3, rfl⟩)) (fun h => (xe_callK0 [2, 1, 0] ["other", "one", "field"] E.times hr (xk_cons (xe_var 2 rfl) (xk_cons (xe_var 1 rfl) (xk_cons (xe_var 0 rfl) xk_nil))) ⟨k, a, b, rfl, a3, b3, rfl⟩ (fun _ _ _ _ _ _ ws hl => match ws, hl with | [_, _, _], _ => rfl)))) (xd_cons (xe_call E.law_by hr (xd_cons (xe_var 0 rfl) (xd_cons (xe_var 1 rfl) (xd_cons (xe_var 2 rfl) xd_nil))) ⟨k, a, b, rfl, a3, b3, rfl⟩) xd_nil))) (by exact le_line rfl)) ?_
  refine xb_cons (xs_app 5 rfl (xe_tup (xd_cons (xe_if (xt_not (xt_val (xe_var 4 rfl))) (fun h => (xe_call E.opposite hr (xd_cons (xe_var 0 rfl) (xd_cons (xe_var 1 rfl) xd_nil)) ⟨k, a, rfl, rfl⟩)) (fun h => (xe_callK0 [1, 0] ["number", "field"] E.opposite hr (xk_cons (xe_var 1 rfl) (xk_cons (xe_var 0 rfl) xk_nil)) ⟨k, a, rfl, rfl⟩ (fun _ _ _ _ _ _ ws hl => match ws, hl with | [_, _], _ => rfl)))) (xd_cons (xe_call E.law_less hr (xd_cons (xe_var 0 rfl) (xd_cons (xe_call E.law_zero hr (xd_cons (xe_var 0 rfl) xd_nil) ⟨k, rfl, rfl⟩) (xd_cons (xe_var 1 rfl) xd_nil))) ⟨k, k.zero, a, rfl, z3, a3, rfl⟩) xd_nil))) (by exact le_line rfl)) ?_
  refine xb_cons (xs_setN 5 (xn_catO 5 rfl (XN.val (xn_lst (xd_cons (xe_tup (xd_cons (xe_call E.plus hr (xd_cons (xe_var 0 rfl) (xd_cons (xe_call E.plus hr (xd_cons (xe_var 0 rfl) (xd_cons (xe_var 1 rfl) (xd_cons (xe_var 2 rfl) xd_nil))) ⟨k, a, b, rfl, a3, b3, rfl⟩) (xd_cons (xe_var 3 rfl) xd_nil))) ⟨k, k.add a b, c, rfl, ab3, c3, rfl⟩) (xd_cons (xe_call E.plus hr (xd_cons (xe_var 0 rfl) (xd_cons (xe_var 3 rfl) (xd_cons (xe_call E.plus hr (xd_cons (xe_var 0 rfl) (xd_cons (xe_var 2 rfl) (xd_cons (xe_var 1 rfl) xd_nil))) ⟨k, b, a, rfl, b3, a3, rfl⟩) xd_nil))) ⟨k, c, k.add b a, rfl, c3, ba3, rfl⟩) xd_nil))) xd_nil))) (by exact le_line rfl)) sc_law_pairs.nd) ?_
  refine xb_cons (xs_setN 5 (xn_catO 5 rfl (XN.val (xn_lst (xd_cons (xe_tup (xd_cons (xe_call E.times hr (xd_cons (xe_var 0 rfl) (xd_cons (xe_var 1 rfl) (xd_cons (xe_call E.plus hr (xd_cons (xe_var 0 rfl) (xd_cons (xe_var 2 rfl) (xd_cons (xe_var 3 rfl) xd_nil))) ⟨k, b, c, rfl, b3, c3, rfl⟩) xd_nil))) ⟨k, a, k.add b c, rfl, a3, bc3, rfl⟩) (xd_cons (xe_call E.plus hr (xd_cons (xe_var 0 rfl) (xd_cons (xe_call E.times hr (xd_cons (xe_var 0 rfl) (xd_cons (xe_var 1 rfl) (xd_cons (xe_var 2 rfl) xd_nil))) ⟨k, a, b, rfl, a3, b3, rfl⟩) (xd_cons (xe_call E.times hr (xd_cons (xe_var 0 rfl) (xd_cons (xe_var 3 rfl) (xd_cons (xe_var 1 rfl) xd_nil))) ⟨k, c, a, rfl, c3, a3, rfl⟩) xd_nil))) ⟨k, k.mul a b, k.mul c a, rfl, mab3, mca3, rfl⟩) xd_nil))) xd_nil))) (by exact le_line rfl)) sc_law_pairs.nd) ?_
  refine xb_cons (xs_setN 5 (xn_catO 5 rfl (XN.val (xn_lst (xd_cons (xe_tup (xd_cons (xe_call E.plus hr (xd_cons (xe_var 0 rfl) (xd_cons (xe_var 1 rfl) (xd_cons (xe_call E.opposite hr (xd_cons (xe_var 0 rfl) (xd_cons (xe_var 1 rfl) xd_nil)) ⟨k, a, rfl, rfl⟩) xd_nil))) ⟨k, a, k.neg a, rfl, a3, na3, rfl⟩) (xd_cons (xe_call E.zero_of hr (xd_cons (xe_var 0 rfl) xd_nil) ⟨k, rfl, rfl⟩) xd_nil))) (xd_cons (xe_tup (xd_cons (xe_call E.times hr (xd_cons (xe_var 0 rfl) (xd_cons (xe_var 1 rfl) (xd_cons (xe_call E.one_of hr (xd_cons (xe_var 0 rfl) xd_nil) ⟨k, rfl, rfl⟩) xd_nil))) ⟨k, a, k.one, rfl, a3, o3, rfl⟩) (xd_cons (xe_var 1 rfl) xd_nil))) xd_nil)))) (by exact le_line rfl)) sc_law_pairs.nd) ?_
  refine xb_cons (xs_setN 5 (xn_catO 5 rfl (XN.val (xn_lst (xd_cons (xe_tup (xd_cons (xe_call E.times hr (xd_cons (xe_var 0 rfl) (xd_cons (xe_call E.zero_of hr (xd_cons (xe_var 0 rfl) xd_nil) ⟨k, rfl, rfl⟩) (xd_cons (xe_var 1 rfl) xd_nil))) ⟨k, k.zero, a, rfl, z3, a3, rfl⟩) (xd_cons (xe_call E.law_zero hr (xd_cons (xe_var 0 rfl) xd_nil) ⟨k, rfl, rfl⟩) xd_nil))) (xd_cons (xe_tup (xd_cons (xe_call E.plus hr (xd_cons (xe_var 0 rfl) (xd_cons (xe_call E.zero_of hr (xd_cons (xe_var 0 rfl) xd_nil) ⟨k, rfl, rfl⟩) (xd_cons (xe_var 1 rfl) xd_nil))) ⟨k, k.zero, a, rfl, z3, a3, rfl⟩) (xd_cons (xe_var 1 rfl) xd_nil))) xd_nil)))) (by exact le_line rfl)) sc_law_pairs.nd) ?_
  -- what stands there
  have e0 : ∀ x : k.α, D.tup [k.rep x, k.rep x] = prD (k.rep x) := fun _ => rfl
  refine xb_is (S1 := [.v (.int k.f), .v (k.rep a), .v (k.rep b), .v (k.rep c), .v (.bl n), .own ([k.rep (k.add a b), k.rep (k.mul a b), k.rep (k.neg a), k.rep (k.add (k.add a b) c), k.rep (k.mul a (k.add b c)), k.rep k.zero, k.rep a, k.rep k.zero, k.rep a].map prD), .un]) ?_ (by
    show [Sl.v (.int k.f), .v (k.rep a), .v (k.rep b), .v (k.rep c), .v (.bl n), .own [D.tup [k.rep (k.add a b), k.rep (k.add a b)], D.tup [k.rep (k.mul a b), k.rep (k.mul a b)], D.tup [k.rep (k.neg a), k.rep (k.add k.zero (k.neg a))], D.tup [k.rep (k.add (k.add a b) c), k.rep (k.add c (k.add b a))], D.tup [k.rep (k.mul a (k.add b c)), k.rep (k.add (k.mul a b) (k.mul c a))], D.tup [k.rep (k.add a (k.neg a)), k.rep k.zero], D.tup [k.rep (k.mul a k.one), k.rep a], D.tup [k.rep (k.mul k.zero a), k.rep k.zero], D.tup [k.rep (k.add k.zero a), k.rep a]], .un] = _
    rw [k.zero_add, k.add_comm c, k.add_comm b a, k.mul_comm c a, ← k.mul_add, k.add_neg, k.mul_one, k.zero_mul, k.zero_add]
    rfl)
  -- the last
  have last : ∀ (mid : List D) (s6 : Sl), mid.length < 100 → XB (cxOf CX0 P w K mg base N_law_pairs "_law_pairs" (defScope s_law_pairs) f cdv A outer s H E').nox Fm [.v (.int k.f), .v (k.rep a), .v (k.rep b), .v (k.rep c), .v (.bl n), .own mid, s6] ([], 0) ((defBody s_law_pairs).drop 8) (.rt (.lst (mid ++ [D.str (k.text a), .bl true].map prD)) ([], 0)) := fun mid s6 hmid => by
    refine xb_one (xs_ret (XE.to (XN.val (xn_catO 5 rfl (XN.val (xn_lst (xd_cons (xe_tup (xd_cons (xe_if (xt_not (xt_val (xe_var 4 rfl))) (fun h => (xe_call E.number_text hr (xd_cons (xe_var 0 rfl) (xd_cons (xe_var 1 rfl) xd_nil)) ⟨k, a, rfl, a19, rfl⟩)) (fun h => (xe_callK0 [1, 0] ["number", "field"] E.number_text hr (xk_cons (xe_var 1 rfl) (xk_cons (xe_var 0 rfl) xk_nil)) ⟨k, a, rfl, a19, rfl⟩ (fun _ _ _ _ _ _ ws hl => match ws, hl with | [_, _], _ => rfl)))) (xd_cons (xe_call E.law_text hr (xd_cons (xe_var 0 rfl) (xd_cons (xe_var 1 rfl) xd_nil)) ⟨k, a, rfl, a19, rfl⟩) xd_nil))) (xd_cons (xe_tup (xd_cons (xe_call E.is_number_of hr (xd_cons (xe_var 0 rfl) (xd_cons (xe_var 1 rfl) xd_nil)) ⟨k, _, rfl, rfl⟩) (xd_cons xe_bl xd_nil))) xd_nil)))) ?_)) ?_))
    · exact Nat.le_trans (show mid.length + 2 ≤ 1000 by omega) (by decide)
    · rw [k.isNum_rep a]
      rfl
  by_cases ha0 : a = k.zero
  · refine xb_cons (xs_ifF (XT.to (xt_neD hr (xe_var 1 rfl) (xe_call E.law_zero hr (xd_cons (xe_var 0 rfl) xd_nil) ⟨k, rfl, rfl⟩) (k.shaped _) (k.shaped _)) (by rw [k.eqv, decide_eq_true ha0] <;> rfl)) xb_nil) ?_
    refine (last _ _ (by exact Nat.le_of_ble_eq_true rfl)).to ?_
    unfold pairsF
    rw [if_pos ha0, List.nil_append, List.map_append]
  · refine xb_cons (xs_ifT (XT.to (xt_neD hr (xe_var 1 rfl) (xe_call E.law_zero hr (xd_cons (xe_var 0 rfl) xd_nil) ⟨k, rfl, rfl⟩) (k.shaped _) (k.shaped _)) (by rw [k.eqv, decide_eq_false ha0] <;> rfl)) (xb_cons (xs_set 6 (xe_if (xt_not (xt_val (xe_var 4 rfl))) (fun h => (xe_call E.inverse hr (xd_cons (xe_var 0 rfl) (xd_cons (xe_var 1 rfl) xd_nil)) ⟨k, a, rfl, ha0, rfl⟩)) (fun h => (xe_callK0 [1, 0] ["number", "field"] E.inverse hr (xk_cons (xe_var 1 rfl) (xk_cons (xe_var 0 rfl) xk_nil)) ⟨k, a, rfl, ha0, rfl⟩ (fun _ _ _ _ _ _ ws hl => match ws, hl with | [_, _], _ => rfl)))) sc_law_pairs.nd) (xb_one (xs_setN 5 (xn_catO 5 rfl (XN.val (xn_lst (xd_cons (xe_tup (xd_cons (xe_var 6 rfl) (xd_cons (xe_call E.law_over hr (xd_cons (xe_var 0 rfl) (xd_cons (xe_call E.law_one hr (xd_cons (xe_var 0 rfl) xd_nil) ⟨k, rfl, rfl⟩) (xd_cons (xe_var 1 rfl) xd_nil))) ⟨k, a, rfl, ha0, a3, rfl⟩) xd_nil))) (xd_cons (xe_tup (xd_cons (xe_call E.times hr (xd_cons (xe_var 0 rfl) (xd_cons (xe_var 1 rfl) (xd_cons (xe_var 6 rfl) xd_nil))) ⟨k, a, k.inv a, rfl, a3, i3, rfl⟩) (xd_cons (xe_call E.one_of hr (xd_cons (xe_var 0 rfl) xd_nil) ⟨k, rfl, rfl⟩) xd_nil))) (xd_cons (xe_tup (xd_cons (xe_call E.inverse hr (xd_cons (xe_var 0 rfl) (xd_cons (xe_var 6 rfl) xd_nil)) ⟨k, k.inv a, rfl, k.inv_ne a ha0, rfl⟩) (xd_cons (xe_var 1 rfl) xd_nil))) xd_nil))))) (by exact le_line rfl)) sc_law_pairs.nd)))) ?_
    · refine (last _ _ ?_).to ?_
      · exact Nat.le_of_ble_eq_true rfl
      · unfold pairsF
        rw [if_neg ha0, k.mul_inv a ha0, k.inv_inv a ha0, List.map_append, List.map_append, ← List.append_assoc]
        rfl
end
end Z
namespace Z
open PySem PySem.Spec PyProof.Rows L2
section
theorem lr_mapD {step : D → DS → Option D → DS → Prop} {g : DS} (f : Int → D) : ∀ (ns : List Int), (∀ n ∈ ns, step (.int n) g (some (f n)) g) → Lr step (ns.map D.int) g (ns.map f) g
  | [], _ => .nil
  | n :: r, h => .keep (h n List.mem_cons_self) (lr_mapD f r fun y hy => h y (List.mem_cons_of_mem _ hy))
theorem good_app {xs ys : List D} (h1 : goodPairs xs) (h2 : goodPairs ys) : goodPairs (xs ++ ys) := fun p hp => by
  rcases List.mem_append.mp hp with h | h
  · exact h1 p h
  · exact h2 p h
theorem good_nil : goodPairs [] := fun p hp => by cases hp
theorem good_map {xs : List D} (h : ∀ x ∈ xs, plainD x = true ∧ nodes x ≤ 100000) : goodPairs (xs.map prD) := fun p hp => by
  obtain ⟨x, hx, rfl⟩ := List.mem_map.mp hp
  exact ⟨x, rfl, h x hx⟩
theorem good_rep {x : D} {n : Nat} (h1 : plainD x = true) (h2 : nodes x ≤ 100000) : goodPairs (List.replicate n (prD x)) := fun p hp => by
  rw [(List.mem_replicate.mp hp).2]
  exact ⟨x, rfl, h1, h2⟩
theorem nodes_int (i : Int) : nodes (.int i) = 1 := by unfold nodes; rfl
namespace FK
theorem plain (k : FK) (a : k.α) : plainD (k.rep a) = true ∧ nodes (k.rep a) ≤ 100000 := by
  cases k with
  | rat =>
    refine ⟨rfl, ?_⟩
    show nodes (.tup [.int _, .int _]) ≤ _
    rw [nodes, nodesL, nodesL, nodesL, nodes_int, nodes_int]
    decide
  | mod p h =>
    refine ⟨rfl, ?_⟩
    show nodes (.int _) ≤ _
    rw [nodes_int]
    decide
end FK
theorem plain_bl (b : Bool) : plainD (.bl b) = true ∧ nodes (.bl b) ≤ 100000 := ⟨rfl, by unfold nodes; decide⟩
theorem plain_str (s : Str) : plainD (.str s) = true ∧ nodes (.str s) ≤ 100000 := ⟨rfl, by unfold nodes; decide⟩
theorem pairs_good (k : FK) (a b c : k.α) : goodPairs ((pairsF k a b c).map prD) ∧ ((pairsF k a b c).map prD).length ≤ 14 := by
  refine ⟨good_map fun x hx => ?_, ?_⟩
  · unfold pairsF at hx
    rcases List.mem_append.mp hx with h | h
    · simp only [List.mem_cons, List.not_mem_nil, or_false] at h
      rcases h with h | h | h | h | h | h | h | h | h <;> (rw [h]; exact k.plain _)
    · rcases List.mem_append.mp h with h | h
      · split at h
        · cases h
        · simp only [List.mem_cons, List.not_mem_nil, or_false] at h
          rcases h with h | h | h <;> (rw [h]; exact k.plain _)
      · simp only [List.mem_cons, List.not_mem_nil, or_false] at h
        rcases h with h | h
        · rw [h]; exact plain_str _
        · rw [h]; exact plain_bl _
  · rw [List.length_map]
    unfold pairsF
    split <;> exact Nat.le_of_ble_eq_true rfl
theorem field_eq (i : Int) : (decide (i = 0) || primesD.any (fun z => eqF z (.int i))) = isField (.int i) := by
  have e : primesD.any (fun z => eqF z (.int i)) = (decide (0 < i ∧ i < 100) && decide (i.toNat ∈ P100)) := by
    unfold primesD
    rw [List.any_map, Bool.eq_iff_iff, List.any_eq_true, Bool.and_eq_true, decide_eq_true_eq, decide_eq_true_eq]
    constructor
    · rintro ⟨p, hp, h⟩
      have h' : (((p : Nat) : Int) == i) = true := h
      rw [beq_iff_eq] at h'
      have := P100_two p hp
      rw [← h']
      exact ⟨by omega, by rw [Int.toNat_natCast]; exact hp⟩
    · rintro ⟨h1, h2⟩
      refine ⟨_, h2, ?_⟩
      show (((i.toNat : Nat) : Int) == i) = true
      rw [beq_iff_eq]; omega
  rw [e]
  rfl
theorem any_nat {g : DS} {p : Nat} (h : Good g) (hp : 0 < p) : ∃ n : Nat, n < p ∧ (anyF g (p : Nat)).1 = ((n : Nat) : Int) ∧ Good (anyF g (p : Nat)).2 := by
  obtain ⟨⟨a0, a1⟩, ga⟩ := any_good h (show (0 : Int) < (p : Nat) by omega)
  exact ⟨(anyF g (p : Nat)).1.toNat, by omega, by omega, ga⟩
def fieldList : List Int := (List.range 133).map (fun (k : Nat) => (-3 : Int) + (k : Int)) ++ [10 ^ 30, 7 ^ 50]
theorem line1 {n : Nat} (h : n ≤ 2000) : n ≤ sizeLine := Nat.le_trans h (by decide)
theorem line2 {n : Nat} (h : n ≤ 2000) : n < sizeLine := Nat.lt_of_le_of_lt h (by decide)
/-- what the law rests on -/
structure LawDefs (P : Program) (w : World) (K : PySem.W.Frag) (mg : Str → Option Value) (base : Heap) : Prop extends PairDefs P w K mg base where
  law_deal : Def P w K mg base 1 "_law_deal" s_law_deal ["script", "salt"] (spMk K)
  law_any : Def P w K mg base 1 "_law_any" s_law_any ["deal", "bound"] (spD K R_any)
  law_all : Def P w K mg base 3 "_law_all" s_law_all ["pairs"] (spP K R_all)
  law_primes : Def P w K mg base 1 "_law_primes" s_law_primes [] (spP K R_primes)
  law_great : Def P w K mg base 3 "_law_great" s_law_great ["deal"] (spD K R_great)
  law_pairs : Def P w K mg base 4 "_law_pairs" s_law_pairs ["field", "one", "other", "third", "is_named"] (spP K R_pairs)
  is_field : Def P w K mg base 2 "is_field" s_is_field ["value"] (spP K R_is_field)
variable {P : Program} {w : World} {K : PySem.W.Frag} {mg : Str → Option Value} {base : Heap}
abbrev bodyL : List Stmt := defBody s_law
/-- the slots of law -/
abbrev sl (sa : Addr) (ps : List D) (s4 s5 s6 s7 s8 s9 s10 s11 s12 : Sl) : List Sl := [.raw (.ref sa), .dl, .own ps, .v (.lst primesD), s4, s5, s6, s7, s8, s9, s10, s11, s12, .un]
section
variable {f : Addr} {cdv : Value} {A : Around} {outer : List Env} {s : Shared} {H : Hp} {E : XK} {Fm : Fm}
/-- pairs + [..for value in some], the end -/
theorem law_end (T : Txt mg) (L : LawDefs P w K mg base) (hr : Room 4 (A.deeper (envOfC "law" (defScope s_law) s.heap.objs.size f cdv))) (hd : Fm.dl = true) {sa : Addr} {ps : List D} {g : DS} (hG : Good g) (hp : goodPairs ps) (hl : ps.length ≤ 1000) (s4 s5 s6 s7 s8 s9 s10 s11 s12 : Sl) :
    ∃ g', XB (cxOf CX0 P w K mg base N_law "law" (defScope s_law) f cdv A outer s H E).nox Fm (sl sa ps s4 s5 s6 s7 s8 s9 s10 s11 s12) g (bodyL.drop 6) (.rt (.bl true) g') := by
  obtain ⟨hsz, hG2⟩ := great_good hG
  obtain ⟨r, hrr⟩ : ∃ r, r = (greatF g).1 := ⟨_, rfl⟩
  rw [← hrr] at hsz
  refine ⟨(greatF g).2, ?_⟩
  have t34 : FK.rat.text (⟨-3, 4, by decide, by decide⟩ : Rat) = Str.ofString "-3/4" := by decide +kernel
  have t0 : FK.rat.text (⟨0, 1, by decide, by decide⟩ : Rat) = Str.ofString "0" := by decide +kernel
  have r34 : FK.rat.rep (⟨-3, 4, by decide, by decide⟩ : Rat) = .tup [.int (-3), .int 4] := rfl
  have sz34 : FK.rat.sz 1900 (⟨-3, 4, by decide, by decide⟩ : Rat) := ⟨by decide +kernel, by decide +kernel⟩
  have sz0 : FK.rat.sz 1900 (⟨0, 1, by decide, by decide⟩ : Rat) := ⟨by decide +kernel, by decide +kernel⟩
  refine xb_cons (xs_setN 2 (xn_catO 2 rfl (XN.val (xn_lst (xd_cons (xe_tup (xd_cons (xe_call L.zero_of hr (xd_cons xe_int xd_nil) ⟨.rat, rfl, rfl⟩) (xd_cons (xe_tup (xd_cons xe_int (xd_cons xe_int xd_nil))) xd_nil))) (xd_cons (xe_tup (xd_cons (xe_call L.one_of hr (xd_cons xe_int xd_nil) ⟨.rat, rfl, rfl⟩) (xd_cons (xe_tup (xd_cons xe_int (xd_cons xe_int xd_nil))) xd_nil))) (xd_cons (xe_tup (xd_cons (xe_callK0 [0, 1] ["field", "value"] L.is_number_of hr (xk_cons xe_int (xk_cons (xe_tup (xd_cons xe_int (xd_cons xe_int xd_nil))) xk_nil)) ⟨.rat, _, rfl, rfl⟩ (fun _ _ _ _ _ _ ws hl => match ws, hl with | [_, _], _ => rfl)) (xd_cons xe_bl xd_nil)))
    (xd_cons (xe_tup (xd_cons (xe_call L.number_text hr (xd_cons xe_int (xd_cons (xe_tup (xd_cons (xe_sub xe_int xe_int) (xd_cons xe_int xd_nil))) xd_nil)) ⟨.rat, (⟨-3, 4, by decide, by decide⟩ : Rat), rfl, sz34, rfl⟩) (xd_cons xe_str xd_nil))) (xd_cons (xe_tup (xd_cons (xe_call L.number_text hr (xd_cons xe_int (xd_cons (xe_tup (xd_cons xe_int (xd_cons xe_int xd_nil))) xd_nil)) ⟨.rat, (⟨0, 1, by decide, by decide⟩ : Rat), rfl, sz0, rfl⟩) (xd_cons xe_str xd_nil))) xd_nil))))))) (line1 (by show ps.length + 5 ≤ 2000; omega))) sc_law.nd) ?_
  rw [t34, t0]
  refine xb_is (S1 := sl sa (ps ++ [D.tup [.int 0, .int 1], .tup [.int 1, .int 1], .bl true, .str "-3/4", .str "0"].map prD) s4 s5 s6 s7 s8 s9 s10 s11 s12) ?_ rfl
  have hp5 : goodPairs (ps ++ [D.tup [.int 0, .int 1], .tup [.int 1, .int 1], .bl true, .str "-3/4", .str "0"].map prD) := good_app hp (good_map fun x hx => by
    simp only [List.mem_cons, List.not_mem_nil, or_false] at hx
    rcases hx with h | h | h | h | h <;> rw [h]
    · exact FK.rat.plain (0 : Rat)
    · exact FK.rat.plain (1 : Rat)
    · exact plain_bl _
    · exact plain_str _
    · exact plain_str _)
  have hl5 : (ps ++ [D.tup [.int 0, .int 1], .tup [.int 1, .int 1], .bl true, .str "-3/4", .str "0"].map prD).length ≤ 1005 := by rw [List.length_append]; show ps.length + 5 ≤ 1005; omega
  generalize (ps ++ [D.tup [.int 0, .int 1], .tup [.int 1, .int 1], .bl true, .str "-3/4", .str "0"].map prD) = qs at hp5 hl5 ⊢
  refine xb_cons (xs_asg (xe_callD L.law_great hr (xa_dl 1 rfl xa_nil) ⟨rfl, hG, rfl, rfl⟩ hd) (xg_tup (xgs_cons (xg_name 10 sc_law.nd) (xgs_cons (xg_name 11 sc_law.nd) xgs_nil)))) ?_
  rw [← hrr]
  have big : ∀ i : Int, i.natAbs < 2 ^ 140 → i.natAbs < 2 ^ 3000 := fun i h => Nat.lt_trans h (by decide +kernel)
  refine xb_cons (xs_setN 12 (xn_lst (xd_cons (xe_tup (xd_cons xe_int (xd_cons xe_int xd_nil))) (xd_cons (xe_tup (xd_cons xe_int (xd_cons xe_int xd_nil))) (xd_cons (xe_tup (xd_cons xe_int (xd_cons xe_int xd_nil))) (xd_cons (xe_tup (xd_cons xe_int (xd_cons (xe_sub xe_int xe_int) xd_nil))) (xd_cons (xe_tup (xd_cons (xe_sub xe_int xe_int) (xd_cons (xe_sub xe_int xe_int) xd_nil))) (xd_cons (xe_tup (xd_cons xe_bl (xd_cons xe_int xd_nil))) (xd_cons (xe_tup (xd_cons xe_int (xd_cons xe_bl xd_nil))) (xd_cons (xe_tup (xd_cons xe_int xd_nil)) (xd_cons (xe_tup (xd_cons xe_int (xd_cons xe_int (xd_cons xe_int xd_nil)))) (xd_cons (XN.val (xn_lst (xd_cons xe_int (xd_cons xe_int xd_nil)))) (xd_cons xe_int (xd_cons xe_int (xd_cons xe_non (xd_cons xe_str (xd_cons (xe_tup (xd_cons xe_int (xd_cons xe_non xd_nil))) (xd_cons (xe_tup (xd_cons xe_str (xd_cons xe_int xd_nil))) xd_nil))))))))))))))))) sc_law.nd) ?_
  refine xb_cons (xs_setN 12 (xn_catO 12 rfl (XN.val (xn_lst (xd_cons (xe_tup (xd_cons (xe_tup (xd_cons xe_int (xd_cons xe_int xd_nil))) (xd_cons xe_int xd_nil))) (xd_cons (xe_tup (xd_cons (xe_mul xe_int (xe_var 10 rfl) (m3 (by decide +kernel) (big _ hsz.1))) (xd_cons (xe_mul xe_int (xe_var 11 rfl) (m3 (by decide +kernel) (big _ (by exact hsz.2)))) xd_nil))) (xd_cons (xe_tup (xd_cons (xe_var 10 rfl) (xd_cons (xe_sub xe_int (xe_var 11 rfl)) xd_nil))) xd_nil))))) (by exact le_line rfl)) sc_law.nd) ?_
  refine xb_frz 12 rfl ?_
  refine xb_forget 4 ?_
  refine xb_one (xs_ret (xe_call L.law_all hr (xd_cons (XN.val (xn_catO 2 rfl (XN.val (xn_lcL [("value", 4)] sc_law.nd (xe_var 12 rfl) (lr_map (fun _ => prD (.bl false)) _ fun x hx => ?_) (by rw [List.length_map]; exact line2 (by exact Nat.le_of_ble_eq_true rfl)) (blkOk_by (N := N_law) (sc := defScope s_law) (by decide +kernel)))) ?_)) xd_nil) ⟨_, rfl, ?_, ?_, rfl⟩))
  · have hx0 : isFr x = false := by
      simp only [List.mem_append, List.mem_cons, List.not_mem_nil, or_false] at hx
      rcases hx with h | h
      · rcases h with h | h | h | h | h | h | h | h | h | h | h | h | h | h | h | h <;> (rw [h]; rfl)
      · rcases h with h | h | h <;> rw [h]
        · rfl
        · show (decide (1 ≤ 3 * ((r.den : Nat) : Int)) && decide (Int.gcd (3 * r.num) (3 * ((r.den : Nat) : Int)) = 1)) = false
          rw [Int.gcd_mul_left]
          have : decide (Int.natAbs 3 * r.num.gcd ((r.den : Nat) : Int) = 1) = false := decide_eq_false (by show ¬ (3 * r.num.gcd ((r.den : Nat) : Int) = 1); omega)
          rw [this, Bool.and_false]
        · show (decide (1 ≤ 0 - ((r.den : Nat) : Int)) && _) = false
          rw [decide_eq_false (by omega), Bool.false_and]
    exact lstep1 (outs_set (i := 4) outs_refl) (fun s H C cl fp => xl_name 4 sc_law.nd) (fun T' s H C cl fp => XE.to (xe_tup (xd_cons (xe_call L.is_number_of hr (xd_cons xe_int (xd_cons (xe_var 4 rfl) xd_nil)) ⟨.rat, x, rfl, rfl⟩) (xd_cons xe_bl xd_nil))) (by show D.tup [.bl (isFr x), .bl false] = _; rw [hx0] <;> rfl))
  · refine line1 ?_
    rw [List.length_map]
    show qs.length + 19 ≤ 2000
    omega
  · refine good_app hp5 fun p hp => ?_
    obtain ⟨_, _, rfl⟩ := List.mem_map.mp hp
    exact ⟨_, rfl, plain_bl _⟩
  · rw [List.length_append, List.length_map]
    show qs.length + 19 < 1000000
    omega
end
end
end Z
namespace Z
open PySem PySem.Spec PyProof.Rows L2
section
variable {P : Program} {w : World} {K : PySem.W.Frag} {mg : Str → Option Value} {base : Heap}
variable {f : Addr} {cdv : Value} {A : Around} {outer : List Env} {s : Shared} {H : Hp} {E : XK} {Fm : Fm}
def noNums (p a : Nat) : List D := [.int (p : Nat), .int (-1), .int ((p : Nat) + (a : Nat)), .bl true, .bl false, .non, .str "1", .tup [.int (a : Nat), .int 1], .lst [.int (a : Nat)], .int (10 ^ 40)]
theorem no_nums {p a : Nat} (h : p ∈ P100) : ∀ x ∈ noNums p a, (FK.mod p h).isNum x = false := fun x hx => by
  have hp := P100_two p h
  unfold noNums at hx
  simp only [List.mem_cons, List.not_mem_nil, or_false] at hx
  rcases hx with q | q | q | q | q | q | q | q | q | q <;> rw [q]
  · show (decide (0 ≤ ((p : Nat) : Int)) && decide (((p : Nat) : Int) < ((p : Nat) : Int))) = false
    rw [Bool.and_eq_false_iff]
    exact .inr (decide_eq_false (by omega))
  · rfl
  · show (decide (0 ≤ ((p : Nat) : Int) + ((a : Nat) : Int)) && decide (((p : Nat) : Int) + ((a : Nat) : Int) < ((p : Nat) : Int))) = false
    rw [Bool.and_eq_false_iff]
    exact .inr (decide_eq_false (by omega))
  · rfl
  · rfl
  · rfl
  · rfl
  · rfl
  · rfl
  · show (decide (0 ≤ (10 : Int) ^ 40) && decide ((10 : Int) ^ 40 < ((p : Nat) : Int))) = false
    have : (100 : Int) < 10 ^ 40 := by decide +kernel
    rw [Bool.and_eq_false_iff]
    exact .inr (decide_eq_false (by omega))
def bodyF : Stmt → List Stmt | .For _ _ b _ _ => b | _ => []
/-- one field -/
theorem law_field (T : Txt mg) (L : LawDefs P w K mg base) (hr : Room 4 (A.deeper (envOfC "law" (defScope s_law) s.heap.objs.size f cdv))) (hd : Fm.dl = true) {sa : Addr} (p : Nat) (h : p ∈ P100) (ps : List D) (g : DS) (s4 s5 s7 s8 s9 s10 s11 s12 : Sl) (hG : Good g) (hp : goodPairs ps) (hl : ps.length ≤ 950) : ∃ ps' g' a7 a8 a9, Good g' ∧ goodPairs ps' ∧ ps'.length ≤ ps.length + 26 ∧
      XB (cxOf CX0 P w K mg base N_law "law" (defScope s_law) f cdv A outer s H E).nox Fm (sl sa ps s4 s5 (.v (.int (p : Nat))) s7 s8 s9 s10 s11 s12) g (bodyF (bodyL.getD 5 (.Pass ⟨0, 0, 0, 0⟩))) (.nx (sl sa ps' .un s5 (.v (.int (p : Nat))) a7 a8 a9 s10 s11 s12) g') := by
  have hpp := P100_two p h
  have hp0 : 0 < p := by omega
  have hp8 : ((p : Nat) : Int) < 2 ^ 8000 := Int.lt_trans (show ((p : Nat) : Int) < 100 by omega) (by decide +kernel)
  obtain ⟨n1, l1, e1, g1⟩ := any_nat hG hp0
  obtain ⟨n2, l2, e2, g2⟩ := any_nat g1 hp0
  obtain ⟨n3, l3, e3, g3⟩ := any_nat g2 hp0
  have pg := pairs_good (FK.mod p h) ⟨n1, l1⟩ ⟨n2, l2⟩ ⟨n3, l3⟩
  obtain ⟨ms, hms⟩ : ∃ ms, ms = (pairsF (FK.mod p h) ⟨n1, l1⟩ ⟨n2, l2⟩ ⟨n3, l3⟩).map prD := ⟨_, rfl⟩
  rw [← hms] at pg
  obtain ⟨pg, pl⟩ := pg
  have sz : ∀ a : (FK.mod p h).α, (FK.mod p h).sz 150 a := fun _ => trivial
  refine ⟨ps ++ ms ++ [prD (.int 0), prD (.int 1)] ++ List.replicate 10 (prD (.bl false)), _, .v (.int (n1 : Nat)), .v (.int (n2 : Nat)), .v (.int (n3 : Nat)), g3, ?_, ?_, ?_⟩
  · refine good_app (good_app (good_app hp pg) (good_map (xs := [D.int 0, .int 1]) fun x hx => ?_)) (good_rep (plain_bl _).1 (plain_bl _).2)
    simp only [List.mem_cons, List.not_mem_nil, or_false] at hx
    rcases hx with q | q <;> rw [q] <;> exact ⟨rfl, by rw [nodes_int]; decide⟩
  · rw [List.length_append, List.length_append, List.length_append, List.length_replicate]
    show ps.length + ms.length + 2 + 10 ≤ _
    omega
  refine xb_forget 13 (xb_cons (xs_asg (XN.val (xn_lcR1 (ys := [.int (n1 : Nat), .int (n2 : Nat), .int (n3 : Nat)]) [("again", 13)] sc_law.nd (xd_cons xe_int xd_nil) (by decide) (.keep (lstep1 (outs_set (i := 13) outs_refl) (fun s H C cl fp => xl_name 13 sc_law.nd) (fun T' s H C cl fp => XE.to (xe_callD L.law_any hr (xa_dl 1 rfl (xa_cons (xe_var 6 rfl) xa_nil)) ⟨_, rfl, by omega, hp8, hG, rfl, rfl⟩ hd) (by rw [e1]))) (.keep (lstep1 (outs_set (i := 13) outs_refl) (fun s H C cl fp => xl_name 13 sc_law.nd) (fun T' s H C cl fp => XE.to (xe_callD L.law_any hr (xa_dl 1 rfl (xa_cons (xe_var 6 rfl) xa_nil)) ⟨_, rfl, by omega, hp8, g1, rfl, rfl⟩ hd) (by rw [e2]))) (.keep (lstep1 (outs_set (i := 13) outs_refl) (fun s H C cl fp => xl_name 13 sc_law.nd) (fun T' s H C cl fp => XE.to (xe_callD L.law_any hr (xa_dl 1 rfl (xa_cons (xe_var 6 rfl) xa_nil)) ⟨_, rfl, by omega, hp8, g2, rfl, rfl⟩ hd) (by rw [e3]))) .nil))) (by exact le_line rfl) (blkOk_by (N := N_law) (sc := defScope s_law) (by decide +kernel)) T.range)) (xg_lst (xgs_cons (xg_name 7 sc_law.nd) (xgs_cons (xg_name 8 sc_law.nd) (xgs_cons (xg_name 9 sc_law.nd) xgs_nil))))) ?_)
  refine xb_cons (xs_setN 2 (xn_cat (XN.val (xn_catO 2 rfl (XE.to (y := .lst ms) (xe_call L.law_pairs hr (xd_cons (xe_var 6 rfl) (xd_cons (xe_var 7 rfl) (xd_cons (xe_var 8 rfl) (xd_cons (xe_var 9 rfl) (xd_cons (xe_eqI (xe_var 6 rfl) xe_int) xd_nil))))) ⟨FK.mod p h, ⟨n1, l1⟩, ⟨n2, l2⟩, ⟨n3, l3⟩, _, rfl, sz _, sz _, sz _, rfl⟩) (by rw [hms])) (line1 (by omega)))) (XN.val (xn_lst (ds := [prD (.int 0), prD (.int 1)]) (xd_cons (XE.to (xe_tup (xd_cons (xe_call L.zero_of hr (xd_cons (xe_var 6 rfl) xd_nil) ⟨FK.mod p h, rfl, rfl⟩) (xd_cons xe_int xd_nil))) ?_) (xd_cons (XE.to (xe_tup (xd_cons (xe_call L.one_of hr (xd_cons (xe_var 6 rfl) xd_nil) ⟨FK.mod p h, rfl, rfl⟩) (xd_cons xe_int xd_nil))) ?_) xd_nil)))) ?_) sc_law.nd) ?_
  · show D.tup [.int ((0 % p : Nat) : Int), .int 0] = _
    rw [Nat.zero_mod]; rfl
  · show D.tup [.int ((1 % p : Nat) : Int), .int 1] = _
    rw [Nat.mod_eq_of_lt (show 1 < p by omega)]; rfl
  · rw [List.length_append]; exact line1 (by show ps.length + ms.length + 2 ≤ 2000; omega)
  have p40 : CPow 10 40 := ⟨by decide, by decide, by decide⟩
  refine xb_forL (ds := noNums p n1) (XN.val (xn_lst (xd_cons (xe_var 6 rfl) (xd_cons (XE.to (y := .int (-1)) (xe_sub xe_int xe_int) rfl) (xd_cons (xe_add (xe_var 6 rfl) (xe_var 7 rfl)) (xd_cons xe_bl (xd_cons xe_bl (xd_cons xe_non (xd_cons xe_str (xd_cons (xe_tup (xd_cons (xe_var 7 rfl) (xd_cons xe_int xd_nil))) (xd_cons (XN.val (xn_lst (xd_cons (xe_var 7 rfl) xd_nil))) (xd_cons (xe_pow xe_int xe_int p40) xd_nil)))))))))))) 
    (fun i S g => ∃ s4, S = sl sa (ps ++ ms ++ [prD (.int 0), prD (.int 1)] ++ List.replicate i (prD (.bl false))) s4 s5 (.v (.int (p : Nat))) (.v (.int (n1 : Nat))) (.v (.int (n2 : Nat))) (.v (.int (n3 : Nat))) s10 s11 s12 ∧ g = (anyF (anyF (anyF _ (p : Nat)).2 (p : Nat)).2 (p : Nat)).2) ⟨s4, by rw [List.replicate_zero, List.append_nil]; rfl, rfl⟩ (fun i x S g hx hI => ?_) (fun S g hI => ?_)
  · obtain ⟨s4', rfl, rfl⟩ := hI
    have hi : i < 10 := (List.getElem?_eq_some_iff.mp hx).1
    have hx0 := no_nums h x (List.mem_of_getElem? hx)
    refine .mk (xg_name 4 sc_law.nd) (.next (xb_one (xs_app 2 rfl (xe_tup (xd_cons (XE.to (y := .bl false) (xe_call L.is_number_of hr (xd_cons (xe_var 6 rfl) (xd_cons (xe_var 4 rfl) xd_nil)) ⟨FK.mod p h, x, rfl, rfl⟩) (by rw [hx0])) (xd_cons xe_bl xd_nil))) ?_)) ⟨.v x, ?_, rfl⟩)
    · rw [List.length_append, List.length_append, List.length_append, List.length_replicate]
      exact line2 (by show ps.length + ms.length + 2 + i ≤ 2000; omega)
    · rw [List.replicate_succ', ← List.append_assoc]
      rfl
  · obtain ⟨s4', rfl, rfl⟩ := hI
    exact xb_nil_un 4
end
end Z
namespace Z
open PySem PySem.Spec PyProof.Rows L2
section
variable {P : Program} {w : World} {K : PySem.W.Frag} {mg : Str → Option Value} {base : Heap}
section
variable {f : Addr} {cdv : Value} {A : Around} {outer : List Env} {s : Shared} {H : Hp} {E : XK} {Fm : Fm}
theorem law_fields (T : Txt mg) (L : LawDefs P w K mg base) (hr : Room 4 (A.deeper (envOfC "law" (defScope s_law) s.heap.objs.size f cdv))) (hd : Fm.dl = true) {sa : Addr} {ps : List D} {g : DS} (hG : Good g) (hp : goodPairs ps) (hl : ps.length ≤ 300) (s4 s5 s6 s7 s8 s9 s10 s11 s12 : Sl) :
    ∃ g', XB (cxOf CX0 P w K mg base N_law "law" (defScope s_law) f cdv A outer s H E).nox Fm (sl sa ps s4 s5 s6 s7 s8 s9 s10 s11 s12) g (bodyL.drop 5) (.rt (.bl true) g') := by
  -- the turns over the fields from the i-th on
  have key : ∀ (r : List Nat) (i : Nat) (ps : List D) (g : DS) (s4 s6 s7 s8 s9 : Sl), (∀ p ∈ r, p ∈ P100) → i + r.length = 25 → Good g → goodPairs ps → ps.length ≤ 300 + 26 * i → ∃ ps' g' s4' s6' s7' s8' s9', Good g' ∧ goodPairs ps' ∧ ps'.length ≤ 950 ∧
      Fr (Step (cxOf CX0 P w K mg base N_law "law" (defScope s_law) f cdv A outer s H E).nox Fm (match bodyL.getD 5 (.Pass ⟨0, 0, 0, 0⟩) with | .For t _ _ _ _ => t | _ => .Constant .none 0 ⟨0, 0, 0, 0⟩) (bodyF (bodyL.getD 5 (.Pass ⟨0, 0, 0, 0⟩)))) (r.map fun (p : Nat) => D.int (p : Int)) (sl sa ps s4 s5 s6 s7 s8 s9 s10 s11 s12) g (.nx (sl sa ps' s4' s5 s6' s7' s8' s9' s10 s11 s12) g') := by
    intro r
    induction r with
    | nil =>
      intro i ps g s4 s6 s7 s8 s9 _ hi hG hp hl
      have : i = 25 := by simpa using hi
      subst this
      exact ⟨ps, g, s4, s6, s7, s8, s9, hG, hp, by omega, .nil⟩
    | cons p r ih =>
      intro i ps g s4 s6 s7 s8 s9 hr' hi hG hp hl
      rw [List.length_cons] at hi
      obtain ⟨ps1, g1, a7, a8, a9, hG1, hp1, hl1, hB⟩ := law_field (A := A) (f := f) (cdv := cdv) (outer := outer) (s := s) (H := H) (E := E) (sa := sa) T L hr hd p (hr' p List.mem_cons_self) ps g s4 s5 s7 s8 s9 s10 s11 s12 hG hp (by omega)
      obtain ⟨ps2, g2, b4, b6, b7, b8, b9, hG2, hp2, hl2, hF⟩ := ih (i + 1) ps1 g1 .un (.v (.int (p : Nat))) a7 a8 a9 (fun q hq => hr' q (List.mem_cons_of_mem _ hq)) (by omega) hG1 hp1 (by omega)
      exact ⟨ps2, g2, b4, b6, b7, b8, b9, hG2, hp2, hl2, .next ⟨_, xg_name 6 sc_law.nd, hB⟩ hF⟩
  obtain ⟨ps', g', b4, b6, b7, b8, b9, hG', hp', hl', hF⟩ := key P100 0 ps g s4 s6 s7 s8 s9 (fun _ h => h) rfl hG hp (by omega)
  obtain ⟨g'', hB⟩ := law_end (A := A) (f := f) (cdv := cdv) (outer := outer) (s := s) (H := H) (E := E) (sa := sa) T L hr hd hG' hp' (by omega) b4 s5 b6 b7 b8 b9 s10 s11 s12
  exact ⟨g'', xb_cons (xs_forL (xe_var 3 rfl) hF) hB⟩
theorem law_turns (T : Txt mg) (L : LawDefs P w K mg base) (hr : Room 4 (A.deeper (envOfC "law" (defScope s_law) s.heap.objs.size f cdv))) (hd : Fm.dl = true) {sa : Addr} {ps : List D} {g : DS} (hG : Good g) (hp : goodPairs ps) (hl : ps.length ≤ 150) (s4 s5 s6 s7 s8 s9 s10 s11 s12 : Sl) :
    ∃ g', XB (cxOf CX0 P w K mg base N_law "law" (defScope s_law) f cdv A outer s H E).nox Fm (sl sa ps s4 s5 s6 s7 s8 s9 s10 s11 s12) g (bodyL.drop 4) (.rt (.bl true) g') := by
  have key : ∀ (n i : Nat) (ps : List D) (g : DS) (s5 : Sl), i + n = 10 → Good g → goodPairs ps → ps.length ≤ 150 + 14 * i → ∃ ps' g' s5', Good g' ∧ goodPairs ps' ∧ ps'.length ≤ 300 ∧
      Fr (Step (cxOf CX0 P w K mg base N_law "law" (defScope s_law) f cdv A outer s H E).nox Fm (match bodyL.getD 4 (.Pass ⟨0, 0, 0, 0⟩) with | .For t _ _ _ _ => t | _ => .Constant .none 0 ⟨0, 0, 0, 0⟩) (bodyF (bodyL.getD 4 (.Pass ⟨0, 0, 0, 0⟩)))) (rngD (i : Int) n) (sl sa ps s4 s5 s6 s7 s8 s9 s10 s11 s12) g (.nx (sl sa ps' s4 s5' s6 s7 s8 s9 s10 s11 s12) g') := by
    intro n
    induction n with
    | zero =>
      intro i ps g s5 hi hG hp hl
      exact ⟨ps, g, s5, hG, hp, by omega, .nil⟩
    | succ n ih =>
      intro i ps g s5 hi hG hp hl
      obtain ⟨z1, g1⟩ := great_good hG
      obtain ⟨z2, g2⟩ := great_good g1
      obtain ⟨z3, g3⟩ := great_good g2
      have z : ∀ {a : FK.rat.α}, FK.rat.sz 140 a → FK.rat.sz 150 a := fun h => FK.rat.sz_mono h (by decide)
      obtain ⟨pg, pl⟩ := pairs_good .rat (greatF g).1 (greatF (greatF g).2).1 (greatF (greatF (greatF g).2).2).1
      obtain ⟨ms, hms⟩ : ∃ ms, ms = (pairsF .rat (greatF g).1 (greatF (greatF g).2).1 (greatF (greatF (greatF g).2).2).1).map prD := ⟨_, rfl⟩
      rw [← hms] at pg pl
      obtain ⟨ps2, g2', b5, hG2, hp2, hl2, hF⟩ := ih (i + 1) (ps ++ ms) _ (.v (.int (i : Int))) (by omega) g3 (good_app hp pg) (by rw [List.length_append]; omega)
      refine ⟨ps2, g2', b5, hG2, hp2, hl2, ?_⟩
      have er : rngD (i : Int) (n + 1) = .int (i : Int) :: rngD ((i + 1 : Nat) : Int) n := by
        unfold rngD
        rw [List.range_succ_eq_map, List.map_cons, List.map_map]
        refine congr (congrArg List.cons ?_) (List.map_congr_left fun k _ => ?_)
        · exact congrArg D.int (show (i : Int) + ((0 : Nat) : Int) = (i : Int) by omega)
        · exact congrArg D.int (show (i : Int) + ((k + 1 : Nat) : Int) = ((i + 1 : Nat) : Int) + (k : Int) by omega)
      rw [er]
      refine .next ⟨_, xg_name 5 sc_law.nd, xb_one (xs_setN 2 (xn_catO 2 rfl (XE.to (y := .lst ms) (xe_call L.law_pairs hr (xd_cons xe_int (xd_cons (xe_callD L.law_great hr (xa_dl 1 rfl xa_nil) ⟨rfl, hG, rfl, rfl⟩ hd) (xd_cons (xe_callD L.law_great hr (xa_dl 1 rfl xa_nil) ⟨rfl, g1, rfl, rfl⟩ hd) (xd_cons (xe_callD L.law_great hr (xa_dl 1 rfl xa_nil) ⟨rfl, g2, rfl, rfl⟩ hd) (xd_cons (xe_eqI (xe_var 5 rfl) xe_int) xd_nil))))) ⟨.rat, _, _, _, _, rfl, z z1, z z2, z z3, rfl⟩) (by rw [hms])) (line1 (by omega))) sc_law.nd)⟩ hF
  obtain ⟨ps', g', b5, hG', hp', hl', hF⟩ := key 10 0 ps g s5 rfl hG hp (by omega)
  obtain ⟨g'', hB⟩ := law_fields (A := A) (f := f) (cdv := cdv) (outer := outer) (s := s) (H := H) (E := E) (sa := sa) T L hr hd hG' hp' hl' s4 b5 s6 s7 s8 s9 s10 s11 s12
  exact ⟨g'', xb_cons (xs_forR1 (xd_cons xe_int xd_nil) (by decide) hF T.range) hB⟩
end
def oddD : List D := [.non, .bl true, .bl false, .str "7", .tup [.int 7], .lst [.int 7], .str "0", .tup [.int 0, .int 1]]
theorem fn_law (T : Txt mg) {f : Addr} {fd : FuncData} (Fn : Fun K "law" "law" s_law f fd) (L : LawDefs P w K mg base) : FnOk P w K mg base CX0 5 f fd ["script"] (spLaw K) := by
  refine fnLaw Fn sc_law fun cdv A outer s H E sa ns hr hS hl => ⟨([], 0), ?_⟩
  refine xb_deal2 1 2 0 (L.law_deal.mono (k := 4) (by decide)) hr rfl rfl hS hl (by decide) (fun a c g1 hG => ?_) sc_law.nd
  obtain ⟨qs, hqs⟩ : ∃ qs : List D, qs = fieldList.map fun i => prD (.bl (isField (.int i))) := ⟨_, rfl⟩
  have hq : goodPairs qs := fun p hp => by
    rw [hqs] at hp
    obtain ⟨i, _, rfl⟩ := List.mem_map.mp hp
    exact ⟨_, rfl, plain_bl _⟩
  have hql : qs.length = 135 := by rw [hqs, List.length_map]; rfl
  have hl8 : ([] ++ qs ++ List.replicate 8 (prD (.bl false))).length ≤ 150 := by rw [List.length_append, List.nil_append, List.length_replicate]; omega
  obtain ⟨g', hB⟩ := law_turns (Fm := (⟨H, fun _ => none, false, 0, 0⟩ : Fm).deal a c) (A := A) (f := f) (cdv := cdv) (outer := outer) (s := s) (H := H) (E := E) (sa := sa) (ps := [] ++ qs ++ List.replicate 8 (prD (.bl false))) T L hr rfl hG (good_app (good_app good_nil hq) (good_rep (plain_bl _).1 (plain_bl _).2)) hl8 .un .un .un .un .un .un .un .un .un
  refine ⟨g', ?_⟩
  have pw1 : CPow 10 30 := ⟨by decide, by decide, by decide⟩
  have pw2 : CPow 7 50 := ⟨by decide, by decide, by decide⟩
  refine xb_cons (xs_set 3 (xe_call0 L.law_primes hr ⟨rfl, rfl⟩) sc_law.nd) ?_
  refine xb_cons (xs_setN 2 (xn_catO 2 rfl (ys := qs) (XN.val (xn_lcL (ds := fieldList.map D.int) [("value", 4)] sc_law.nd (XE.to (XN.val (xn_cat (XN.val (xn_listR2 (xe_sub xe_int xe_int) xe_int (by refine ⟨by decide, by decide, ?_⟩ <;> decide) T.range T.list)) (XN.val (xn_lst (xd_cons (xe_pow xe_int xe_int pw1) (xd_cons (xe_pow xe_int xe_int pw2) xd_nil)))) (by exact le_line rfl))) ?_) (by
    rw [hqs]
    exact lr_mapD _ fieldList fun n _ => lstep1 (outs_set (i := 4) outs_refl) (fun s H C cl fp => xl_name 4 sc_law.nd) (fun T' s H C cl fp => XE.to (xe_tup (xd_cons (xe_call L.is_field hr (xd_cons (xe_var 4 rfl) xd_nil) ⟨_, rfl, rfl⟩) (xd_cons (xe_or (xe_eqI (xe_var 4 rfl) xe_int) fun _ => xe_and1 (xe_in (xe_var 4 rfl) (xe_var 3 rfl) rfl rfl rfl)) xd_nil))) (by rw [field_eq] <;> rfl)))
    (line2 (by omega)) (blkOk_by (N := N_law) (sc := defScope s_law) (by decide +kernel)))) (line1 (by rw [hql]; decide))) sc_law.nd) ?_
  · refine congrArg D.lst ?_
    show rngD (-3) 133 ++ [D.int (10 ^ 30), D.int (7 ^ 50)] = _
    unfold fieldList rngD
    rw [List.map_append, List.map_map]
    rfl
  refine xb_forL (ds := oddD) (XN.val (xn_lst (xd_cons xe_non (xd_cons xe_bl (xd_cons xe_bl (xd_cons xe_str (xd_cons (xe_tup (xd_cons xe_int xd_nil)) (xd_cons (XN.val (xn_lst (xd_cons xe_int xd_nil))) (xd_cons xe_str (xd_cons (xe_tup (xd_cons xe_int (xd_cons xe_int xd_nil))) xd_nil))))))))))
    (fun i S g => ∃ s4, S = sl sa ([] ++ qs ++ List.replicate i (prD (.bl false))) s4 .un .un .un .un .un .un .un .un ∧ g = g1) ⟨.un, by rw [List.replicate_zero, List.append_nil]; rfl, rfl⟩ (fun i x S g hx hI => ?_) (fun S g hI => ?_)
  · obtain ⟨s4', rfl, rfl⟩ := hI
    have hi : i < 8 := (List.getElem?_eq_some_iff.mp hx).1
    have hx0 : isField x = false := by
      have hm := List.mem_of_getElem? hx
      unfold oddD at hm
      simp only [List.mem_cons, List.not_mem_nil, or_false] at hm
      rcases hm with q | q | q | q | q | q | q | q <;> (rw [q]; rfl)
    refine .mk (xg_name 4 sc_law.nd) (.next (xb_one (xs_app 2 rfl (xe_tup (xd_cons (XE.to (y := .bl false) (xe_if (xt_notN (xe_var 4 rfl)) (fun h => (xe_call L.is_field hr (xd_cons (xe_var 4 rfl) xd_nil) ⟨x, rfl, rfl⟩)) (fun h => (xe_callK0 [0] ["value"] L.is_field hr (xk_cons (xe_var 4 rfl) xk_nil) ⟨x, rfl, rfl⟩ (fun _ _ _ _ _ _ ws hl => match ws, hl with | [_], _ => rfl)))) (by rw [hx0])) (xd_cons xe_bl xd_nil))) ?_)) ⟨.v x, ?_, rfl⟩)
    · rw [List.length_append, List.nil_append, List.length_replicate]
      exact line2 (by omega)
    · rw [List.replicate_succ', ← List.append_assoc]
      rfl
  · obtain ⟨s4', rfl, rfl⟩ := hI
    exact xb_forget 4 hB
end
end Z
namespace Z
open PySem PySem.Spec PyProof.Rows L2
/-- the defs as the top leaves them -/
structure Raws (K : PySem.W.Frag) (mg : Str → Option Value) : Prop where
  is_integer : Raw K mg "is_integer" s_is_integer ["value"]
  is_number : Raw K mg "is_number" s_is_number ["value"]
  is_tuple : Raw K mg "is_tuple" s_is_tuple ["value", "many"]
  is_prime : Raw K mg "is_prime" s_is_prime ["number"]
  is_field : Raw K mg "is_field" s_is_field ["value"]
  common_divisor : Raw K mg "common_divisor" s_common_divisor ["one", "other"]
  fraction : Raw K mg "fraction" s_fraction ["top", "bottom"]
  is_fraction : Raw K mg "is_fraction" s_is_fraction ["value"]
  is_number_of : Raw K mg "is_number_of" s_is_number_of ["field", "value"]
  zero_of : Raw K mg "zero_of" s_zero_of ["field"]
  one_of : Raw K mg "one_of" s_one_of ["field"]
  plus : Raw K mg "plus" s_plus ["field", "one", "other"]
  opposite : Raw K mg "opposite" s_opposite ["field", "number"]
  times : Raw K mg "times" s_times ["field", "one", "other"]
  power_of : Raw K mg "power_of" s_power_of ["field", "number", "many"]
  inverse : Raw K mg "inverse" s_inverse ["field", "number"]
  number_text : Raw K mg "number_text" s_number_text ["field", "number"]
  law_deal : Raw K mg "_law_deal" s_law_deal ["script", "salt"]
  law_any : Raw K mg "_law_any" s_law_any ["deal", "bound"]
  law_of : Raw K mg "_law_of" s_law_of ["deal", "some"]
  law_is_kind : Raw K mg "_law_is_kind" s_law_is_kind ["told", "due"]
  law_same : Raw K mg "_law_same" s_law_same ["told", "due"]
  law_all : Raw K mg "_law_all" s_law_all ["pairs"]
  law_shared : Raw K mg "_law_shared" s_law_shared ["one", "other"]
  law_number : Raw K mg "_law_number" s_law_number ["field", "top", "bottom"]
  law_plus : Raw K mg "_law_plus" s_law_plus ["field", "one", "other"]
  law_by : Raw K mg "_law_by" s_law_by ["field", "one", "other"]
  law_less : Raw K mg "_law_less" s_law_less ["field", "one", "other"]
  law_over : Raw K mg "_law_over" s_law_over ["field", "one", "other"]
  law_zero : Raw K mg "_law_zero" s_law_zero ["field"]
  law_one : Raw K mg "_law_one" s_law_one ["field"]
  law_primes : Raw K mg "_law_primes" s_law_primes []
  law_great : Raw K mg "_law_great" s_law_great ["deal"]
  law_text : Raw K mg "_law_text" s_law_text ["field", "number"]
  law_pairs : Raw K mg "_law_pairs" s_law_pairs ["field", "one", "other", "third", "is_named"]
theorem law_defs {P : Program} {w : World} {K : PySem.W.Frag} {mg : Str → Option Value} {base : Heap} (T : Txt mg) (R : Raws K mg) : LawDefs P w K mg base := by
  have is_integer := d_is_integer (P := P) (w := w) (base := base) T R.is_integer
  have is_number := d_is_number T R.is_number is_integer
  have is_tuple := d_is_tuple (P := P) (w := w) (base := base) T R.is_tuple
  have is_prime := d_is_prime (P := P) (w := w) (base := base) R.is_prime
  have is_field := d_is_field T R.is_field is_integer is_prime
  have common_divisor := d_common_divisor (P := P) (w := w) (base := base) T R.common_divisor
  have fraction := d_fraction R.fraction common_divisor
  have is_fraction := d_is_fraction R.is_fraction is_integer is_tuple common_divisor
  have is_number_of := d_is_number_of R.is_number_of is_number is_fraction
  have zero_of := d_zero_of (P := P) (w := w) (base := base) R.zero_of
  have one_of := d_one_of (P := P) (w := w) (base := base) R.one_of
  have plus := d_plus R.plus fraction
  have opposite := d_opposite (P := P) (w := w) (base := base) R.opposite
  have times := d_times R.times fraction
  have power_of := d_power_of (P := P) (w := w) (base := base) R.power_of
  have inverse := d_inverse R.inverse power_of
  have number_text := d_number_text (P := P) (w := w) (base := base) T R.number_text
  have law_deal := d_law_deal (P := P) (w := w) (base := base) T R.law_deal
  have law_any := d_law_any (P := P) (w := w) (base := base) T R.law_any
  have law_of := d_law_of T R.law_of law_any
  have law_is_kind := d_law_is_kind (P := P) (w := w) (base := base) T R.law_is_kind
  have law_same := d_law_same T R.law_same law_is_kind
  have law_all := d_law_all T R.law_all law_same
  have law_shared := d_law_shared (P := P) (w := w) (base := base) T R.law_shared
  have law_number := d_law_number T R.law_number law_shared
  have law_plus := d_law_plus T R.law_plus law_number
  have law_by := d_law_by T R.law_by law_number
  have law_less := d_law_less T R.law_less law_number
  have law_over := d_law_over R.law_over law_number
  have law_zero := d_law_zero (P := P) (w := w) (base := base) R.law_zero
  have law_one := d_law_one (P := P) (w := w) (base := base) R.law_one
  have law_primes := d_law_primes (P := P) (w := w) (base := base) T R.law_primes
  have law_great := d_law_great R.law_great law_any law_of law_number
  have law_text := d_law_text (P := P) (w := w) (base := base) T R.law_text
  have E : PairDefs P w K mg base := { plus := plus, times := times, opposite := opposite, inverse := inverse, zero_of := zero_of, one_of := one_of, number_text := number_text, is_number_of := is_number_of, law_plus := law_plus, law_by := law_by, law_less := law_less, law_over := law_over, law_zero := law_zero, law_one := law_one, law_text := law_text }
  exact { toPairDefs := E, law_deal := law_deal, law_any := law_any, law_all := law_all, law_primes := law_primes, law_great := law_great, law_pairs := d_law_pairs R.law_pairs E, is_field := is_field }
theorem raw_mk {K : PySem.W.Frag} {h : Heap} {mg : Str → Option Value} {x : Str} {st : Stmt} {ps : List Str} {f : Addr} {oc : Value} {od an : Option Addr} {osl : Array (Option Value)} {kV doc pm cdv ct : Value} (X : K.In h) (G : h.Ns mainGlobals mg)
    (hb : ∀ (kV doc pm : Value) (an : Option Addr) (cdv ct : Value) (us : List Value), us.length = ps.length → bindArgs (PySem.W.fnOf x x (defArgs st) (defBody st) (defScope st) .none kV doc pm an cdv ct) ⟨us, []⟩ = pure (ps.zip us))
    (a : PySem.W.nsIn K mainGlobals x = some (some (.ref f))) (l : K.lookup f = some ⟨oc, od, .func (PySem.W.fnOf x x (defArgs st) (defBody st) (defScope st) .none kV doc pm an cdv ct), osl⟩) (c : PySem.W.codeIn K cdv x = true) (k : PySem.W.keepIn K (.ref f) = true) : Raw K mg x st ps :=
  ⟨f, _, fun_mk l c k, PySem.W.mg_of X G a, (fun_mk l c k).binds hb⟩
theorem int_of {K : PySem.W.Frag} {h : Heap} {mg : Str → Option Value} {n : Str} {i : Int} {t : Tok} (X : K.In h) (G : h.Ns mainGlobals mg) (e : PySem.W.nsIn K mainGlobals n = some (some (.int i t))) : ∃ t, mg n = some (.int i t) := ⟨t, PySem.W.mg_of X G e⟩
theorem law_mk {l : PySem.W.OpenLaw} {w : World} {K : PySem.W.Frag} {h : Heap} {mg : Str → Option Value} {fa f : Addr} (X : K.In h) (G : h.Ns mainGlobals mg) (hfa : mg "law" = some (.ref fa)) (T : Txt mg) (R : Raws K mg) {oc : Value} {od an : Option Addr} {osl : Array (Option Value)} {kV doc pm cdv ct : Value}
    (a : PySem.W.nsIn K mainGlobals "law" = some (some (.ref f))) (lk : K.lookup f = some ⟨oc, od, .func (PySem.W.fnOf "law" "law" (defArgs s_law) (defBody s_law) (defScope s_law) .none kV doc pm an cdv ct), osl⟩) (c : PySem.W.codeIn K cdv "law" = true) (k : PySem.W.keepIn K (.ref f) = true) :
    ∃ fd : FuncData, (∀ (s : Shared) (v : Value), BindsTo s fd ⟨[v], []⟩ [("script", v)]) ∧ ∀ base : Heap, K.In base → base.Ns mainGlobals mg → FnOk l.prog w K mg base CX0 5 fa fd ["script"] (spLaw K) := by
  have e := hfa.symm.trans (PySem.W.mg_of X G a)
  cases e
  exact ⟨_, fun s v => .of_eq rfl, fun base _ _ => fn_law T (fun_mk lk c k) (law_defs T R)⟩
theorem walk {l : PySem.W.OpenLaw} {q : Program} {loose : List Str} {XP : (Str → Option Value) → Heap → Prop} {YP : World → Heap → Prop} {d : DefRec} {K : Params → PySem.W.Frag} (hn : l.most = some 63) (hdf : d.params.defaults = [])
    (hY : ∀ (w : World) (h : Heap), YP w h → (K w.params).In h)
    (F : ∀ (w : World) (mg : Str → Option Value) (fa : Addr) (h : Heap), (K w.params).In h → h.Ns mainGlobals mg → mg d.name = some (.ref fa) →
      ∃ fd : FuncData, (∀ (s : Shared) (u : Value), BindsTo s fd ⟨[u], []⟩ [("script", u)]) ∧ ∀ base : Heap, (K w.params).In base → base.Ns mainGlobals mg → FnOk l.prog w (K w.params) mg base CX0 5 fa fd ["script"] (spLaw (K w.params))) :
    PySem.W.WalkO q loose XP YP l.row.toRowW d [] (fun f vs => PySem.call f vs) :=
  L2.walk_of (n := 63) (k := 5) (x := "script") (CX := fun _ => CX0) (sp := fun w => spLaw (K w.params)) hn (by decide) hdf ⟨rfl, by decide, by decide⟩ hY F (fun _ _ a ns hl _ hS => ⟨a, ns, rfl, hS, hl, fun _ => rfl⟩) fun _ _ _ _ _ z => z
end Z

open PySem PySem.W PyProof.Rows in
set_option maxRecDepth 100000 in
set_option maxHeartbeats 0 in
theorem PySem.Challenge.cw_holdrooms_k00_numbers_of_all_fields_holds : PySem.Challenge.rw_holdrooms_k00_numbers_of_all_fields.Holds := by
  w_on; o_law; k_head; (case hw => w_witness2)
  k_fill
  refine Z.walk (l := PySem.Challenge.rw_holdrooms_k00_numbers_of_all_fields) rfl rfl (fun w h Y => PySem.W.kIn_of Y) ?F
  case F =>
    intro w mg fa h KX G hmg
    have T : Z.Txt mg := by
      constructor
      all_goals first | exact PySem.W.mg_none_of KX G (by k_is) | (refine' Z.int_of KX G ?e; (case e => k_is))
    refine' Z.law_mk KX G hmg T ?R ?a ?l ?c ?k
    (case a => k_is)
    (case l => k_is)
    (case c => k_is)
    (case k => k_is)
    case R =>
      constructor
      · refine' Z.raw_mk KX G (fun _ _ _ _ _ _ us hl => match us, hl with | [_], _ => rfl) ?a ?l ?c ?k
        (case a => k_is)
        (case l => k_is)
        (case c => k_is)
        (case k => k_is)
      · refine' Z.raw_mk KX G (fun _ _ _ _ _ _ us hl => match us, hl with | [_], _ => rfl) ?a ?l ?c ?k
        (case a => k_is)
        (case l => k_is)
        (case c => k_is)
        (case k => k_is)
      · refine' Z.raw_mk KX G (fun _ _ _ _ _ _ us hl => match us, hl with | [_, _], _ => rfl) ?a ?l ?c ?k
        (case a => k_is)
        (case l => k_is)
        (case c => k_is)
        (case k => k_is)
      · refine' Z.raw_mk KX G (fun _ _ _ _ _ _ us hl => match us, hl with | [_], _ => rfl) ?a ?l ?c ?k
        (case a => k_is)
        (case l => k_is)
        (case c => k_is)
        (case k => k_is)
      · refine' Z.raw_mk KX G (fun _ _ _ _ _ _ us hl => match us, hl with | [_], _ => rfl) ?a ?l ?c ?k
        (case a => k_is)
        (case l => k_is)
        (case c => k_is)
        (case k => k_is)
      · refine' Z.raw_mk KX G (fun _ _ _ _ _ _ us hl => match us, hl with | [_, _], _ => rfl) ?a ?l ?c ?k
        (case a => k_is)
        (case l => k_is)
        (case c => k_is)
        (case k => k_is)
      · refine' Z.raw_mk KX G (fun _ _ _ _ _ _ us hl => match us, hl with | [_, _], _ => rfl) ?a ?l ?c ?k
        (case a => k_is)
        (case l => k_is)
        (case c => k_is)
        (case k => k_is)
      · refine' Z.raw_mk KX G (fun _ _ _ _ _ _ us hl => match us, hl with | [_], _ => rfl) ?a ?l ?c ?k
        (case a => k_is)
        (case l => k_is)
        (case c => k_is)
        (case k => k_is)
      · refine' Z.raw_mk KX G (fun _ _ _ _ _ _ us hl => match us, hl with | [_, _], _ => rfl) ?a ?l ?c ?k
        (case a => k_is)
        (case l => k_is)
        (case c => k_is)
        (case k => k_is)
      · refine' Z.raw_mk KX G (fun _ _ _ _ _ _ us hl => match us, hl with | [_], _ => rfl) ?a ?l ?c ?k
        (case a => k_is)
        (case l => k_is)
        (case c => k_is)
        (case k => k_is)
      · refine' Z.raw_mk KX G (fun _ _ _ _ _ _ us hl => match us, hl with | [_], _ => rfl) ?a ?l ?c ?k
        (case a => k_is)
        (case l => k_is)
        (case c => k_is)
        (case k => k_is)
      · refine' Z.raw_mk KX G (fun _ _ _ _ _ _ us hl => match us, hl with | [_, _, _], _ => rfl) ?a ?l ?c ?k
        (case a => k_is)
        (case l => k_is)
        (case c => k_is)
        (case k => k_is)
      · refine' Z.raw_mk KX G (fun _ _ _ _ _ _ us hl => match us, hl with | [_, _], _ => rfl) ?a ?l ?c ?k
        (case a => k_is)
        (case l => k_is)
        (case c => k_is)
        (case k => k_is)
      · refine' Z.raw_mk KX G (fun _ _ _ _ _ _ us hl => match us, hl with | [_, _, _], _ => rfl) ?a ?l ?c ?k
        (case a => k_is)
        (case l => k_is)
        (case c => k_is)
        (case k => k_is)
      · refine' Z.raw_mk KX G (fun _ _ _ _ _ _ us hl => match us, hl with | [_, _, _], _ => rfl) ?a ?l ?c ?k
        (case a => k_is)
        (case l => k_is)
        (case c => k_is)
        (case k => k_is)
      · refine' Z.raw_mk KX G (fun _ _ _ _ _ _ us hl => match us, hl with | [_, _], _ => rfl) ?a ?l ?c ?k
        (case a => k_is)
        (case l => k_is)
        (case c => k_is)
        (case k => k_is)
      · refine' Z.raw_mk KX G (fun _ _ _ _ _ _ us hl => match us, hl with | [_, _], _ => rfl) ?a ?l ?c ?k
        (case a => k_is)
        (case l => k_is)
        (case c => k_is)
        (case k => k_is)
      · refine' Z.raw_mk KX G (fun _ _ _ _ _ _ us hl => match us, hl with | [_, _], _ => rfl) ?a ?l ?c ?k
        (case a => k_is)
        (case l => k_is)
        (case c => k_is)
        (case k => k_is)
      · refine' Z.raw_mk KX G (fun _ _ _ _ _ _ us hl => match us, hl with | [_, _], _ => rfl) ?a ?l ?c ?k
        (case a => k_is)
        (case l => k_is)
        (case c => k_is)
        (case k => k_is)
      · refine' Z.raw_mk KX G (fun _ _ _ _ _ _ us hl => match us, hl with | [_, _], _ => rfl) ?a ?l ?c ?k
        (case a => k_is)
        (case l => k_is)
        (case c => k_is)
        (case k => k_is)
      · refine' Z.raw_mk KX G (fun _ _ _ _ _ _ us hl => match us, hl with | [_, _], _ => rfl) ?a ?l ?c ?k
        (case a => k_is)
        (case l => k_is)
        (case c => k_is)
        (case k => k_is)
      · refine' Z.raw_mk KX G (fun _ _ _ _ _ _ us hl => match us, hl with | [_, _], _ => rfl) ?a ?l ?c ?k
        (case a => k_is)
        (case l => k_is)
        (case c => k_is)
        (case k => k_is)
      · refine' Z.raw_mk KX G (fun _ _ _ _ _ _ us hl => match us, hl with | [_], _ => rfl) ?a ?l ?c ?k
        (case a => k_is)
        (case l => k_is)
        (case c => k_is)
        (case k => k_is)
      · refine' Z.raw_mk KX G (fun _ _ _ _ _ _ us hl => match us, hl with | [_, _], _ => rfl) ?a ?l ?c ?k
        (case a => k_is)
        (case l => k_is)
        (case c => k_is)
        (case k => k_is)
      · refine' Z.raw_mk KX G (fun _ _ _ _ _ _ us hl => match us, hl with | [_, _, _], _ => rfl) ?a ?l ?c ?k
        (case a => k_is)
        (case l => k_is)
        (case c => k_is)
        (case k => k_is)
      · refine' Z.raw_mk KX G (fun _ _ _ _ _ _ us hl => match us, hl with | [_, _, _], _ => rfl) ?a ?l ?c ?k
        (case a => k_is)
        (case l => k_is)
        (case c => k_is)
        (case k => k_is)
      · refine' Z.raw_mk KX G (fun _ _ _ _ _ _ us hl => match us, hl with | [_, _, _], _ => rfl) ?a ?l ?c ?k
        (case a => k_is)
        (case l => k_is)
        (case c => k_is)
        (case k => k_is)
      · refine' Z.raw_mk KX G (fun _ _ _ _ _ _ us hl => match us, hl with | [_, _, _], _ => rfl) ?a ?l ?c ?k
        (case a => k_is)
        (case l => k_is)
        (case c => k_is)
        (case k => k_is)
      · refine' Z.raw_mk KX G (fun _ _ _ _ _ _ us hl => match us, hl with | [_, _, _], _ => rfl) ?a ?l ?c ?k
        (case a => k_is)
        (case l => k_is)
        (case c => k_is)
        (case k => k_is)
      · refine' Z.raw_mk KX G (fun _ _ _ _ _ _ us hl => match us, hl with | [_], _ => rfl) ?a ?l ?c ?k
        (case a => k_is)
        (case l => k_is)
        (case c => k_is)
        (case k => k_is)
      · refine' Z.raw_mk KX G (fun _ _ _ _ _ _ us hl => match us, hl with | [_], _ => rfl) ?a ?l ?c ?k
        (case a => k_is)
        (case l => k_is)
        (case c => k_is)
        (case k => k_is)
      · refine' Z.raw_mk KX G (fun _ _ _ _ _ _ us hl => match us, hl with | [], _ => rfl) ?a ?l ?c ?k
        (case a => k_is)
        (case l => k_is)
        (case c => k_is)
        (case k => k_is)
      · refine' Z.raw_mk KX G (fun _ _ _ _ _ _ us hl => match us, hl with | [_], _ => rfl) ?a ?l ?c ?k
        (case a => k_is)
        (case l => k_is)
        (case c => k_is)
        (case k => k_is)
      · refine' Z.raw_mk KX G (fun _ _ _ _ _ _ us hl => match us, hl with | [_, _], _ => rfl) ?a ?l ?c ?k
        (case a => k_is)
        (case l => k_is)
        (case c => k_is)
        (case k => k_is)
      · refine' Z.raw_mk KX G (fun _ _ _ _ _ _ us hl => match us, hl with | [_, _, _, _, _], _ => rfl) ?a ?l ?c ?k
        (case a => k_is)
        (case l => k_is)
        (case c => k_is)
        (case k => k_is)
