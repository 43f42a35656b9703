import PyProof.Rows.All
import Wide.All
import OpenK.AllK
import Wide.FinOn
import HandS.ForMost
import HandS.IsInst
import HandS.TupAny
import HandS.TupMul
import HandS.Style
import HandS.Deep
import HandS.Conv
import HandS.Zip
import HandS.RaiseMore
import HandS.SortInts
import KE.GoesEnum
import KE.GoesMore
import HandS.Strs
import HandS.SetFor
import HandS.Ends
import PyProof.P3Eq
import PyProof.ReprLen
import PySem.Challenge.RW_onecloth_k88_any_value_as_loom_of_a_draf
set_option Elab.async false
set_option linter.all false
set_option maxRecDepth 100000
set_option maxHeartbeats 4000000
/-! DL, part 1: data trees over the abstract heap, slots, frames. -/
namespace DL
open PySem PySem.Spec PyProof.Rows L2

/-! ### heaps -/
def Ex (H H' : Hp) : Prop := ∀ a o, H a = some o → H' a = some o
theorem Ex.refl (H : Hp) : Ex H H := fun _ _ h => h
theorem Ex.trans {H H1 H2 : Hp} (a : Ex H H1) (b : Ex H1 H2) : Ex H H2 := fun x o h => b x o (a x o h)
theorem Ex.live {H H' : Hp} (e : Ex H H') {b : Addr} (h : H b ≠ none) : H' b ≠ none := by
  cases q : H b with
  | none => exact absurd q h
  | some o => rw [e b o q]; simp
theorem Ex.free {H H' : Hp} (e : Ex H H') {b : Addr} (h : H' b = none) : H b = none := by
  cases q : H b with
  | none => rfl
  | some o => rw [e b o q] at h; cases h
theorem Ex.new {H : Hp} {p : Addr} {o : HO} (h : H p = none) : Ex H (upd H p o) := fun a u e => by
  rw [upd_ne (ne_of_none e h)]; exact e
theorem Ex.rd {H H' : Hp} {a : Addr} {u : HO} (e : Ex H H') (h : Rd H a u) : Rd H' a u := by
  rcases h with h | ⟨o, h⟩
  · exact .inl (e a _ h)
  · exact .inr ⟨o, e a _ h⟩
theorem Ex.sl {K : PySem.W.Frag} {H H' : Hp} {a : Addr} {xs : List V} (e : Ex H H') (h : SqL K H a xs) : SqL K H' a xs := by
  rcases h with h | h
  · exact .inl (e.rd h)
  · exact .inr h
theorem Ex.st {K : PySem.W.Frag} {H H' : Hp} {a : Addr} {xs : List V} (e : Ex H H') (h : SqT K H a xs) : SqT K H' a xs := by
  rcases h with h | h
  · exact .inl (e.rd h)
  · exact .inr h

/-! ### data at values -/
def keyD : Key → PyData
  | .inl i => .int i
  | .inr x => .str x
mutual
inductive Rp (K : PySem.W.Frag) (H : Hp) : V → PyData → Prop
  | non : Rp K H .non .none
  | bl (b : Bool) : Rp K H (.bl b) (.bool b)
  | int (i : Int) : Rp K H (.int i) (.int i)
  | str (x : Str) : Rp K H (.str x) (.str x)
  | lst {a : Addr} {xs : List V} {ds : List PyData} : H a = some (.lst xs) → RpAll K H xs ds → Rp K H (.ref a) (.list ds)
  | tup {a : Addr} {xs : List V} {ds : List PyData} : SqT K H a xs → RpAll K H xs ds → Rp K H (.ref a) (.tuple ds)
  | dic {a : Addr} {kvs : List (Key × V)} {ds : List (PyData × PyData)} : Rd H a (.dK kvs) → RpKV K H kvs ds → Rp K H (.ref a) (.dict ds)
  /-- the law's script: a list that is read alone -/
  | scr {a : Addr} {xs : List V} {ds : List PyData} : SqL K H a xs → RpAll K H xs ds → Rp K H (.ref a) (.dict [(.none, .list ds)])
inductive RpAll (K : PySem.W.Frag) (H : Hp) : List V → List PyData → Prop
  | nil : RpAll K H [] []
  | cons {v : V} {vs : List V} {d : PyData} {ds : List PyData} : Rp K H v d → RpAll K H vs ds → RpAll K H (v :: vs) (d :: ds)
inductive RpKV (K : PySem.W.Frag) (H : Hp) : List (Key × V) → List (PyData × PyData) → Prop
  | nil : RpKV K H [] []
  | cons {k : Key} {v : V} {r : List (Key × V)} {d : PyData} {ds : List (PyData × PyData)} : Rp K H v d → RpKV K H r ds → RpKV K H ((k, v) :: r) ((keyD k, d) :: ds)
end

section
variable {K : PySem.W.Frag} {H H' : Hp}
mutual
theorem Rp.mono (e : Ex H H') : ∀ {v : V} {d : PyData}, Rp K H v d → Rp K H' v d
  | _, _, .non => .non
  | _, _, .bl b => .bl b
  | _, _, .int i => .int i
  | _, _, .str x => .str x
  | _, _, .lst h r => .lst (e _ _ h) (RpAll.mono e r)
  | _, _, .tup h r => .tup (e.st h) (RpAll.mono e r)
  | _, _, .dic h r => .dic (e.rd h) (RpKV.mono e r)
  | _, _, .scr h r => .scr (e.sl h) (RpAll.mono e r)
theorem RpAll.mono (e : Ex H H') : ∀ {vs : List V} {ds : List PyData}, RpAll K H vs ds → RpAll K H' vs ds
  | _, _, .nil => .nil
  | _, _, .cons h r => .cons (Rp.mono e h) (RpAll.mono e r)
theorem RpKV.mono (e : Ex H H') : ∀ {vs : List (Key × V)} {ds : List (PyData × PyData)}, RpKV K H vs ds → RpKV K H' vs ds
  | _, _, .nil => .nil
  | _, _, .cons h r => .cons (Rp.mono e h) (RpKV.mono e r)
end
theorem RpAll.length : ∀ {vs : List V} {ds : List PyData}, RpAll K H vs ds → vs.length = ds.length
  | _, _, .nil => rfl
  | _, _, .cons _ r => by simp [r.length]
theorem RpAll.get : ∀ {vs : List V} {ds : List PyData} {i : Nat} {d : PyData}, RpAll K H vs ds → ds[i]? = some d → ∃ v, vs[i]? = some v ∧ Rp K H v d
  | _, _, _, _, .nil, e => by simp at e
  | _, _, 0, _, .cons r _, e => by simp at e; subst e; exact ⟨_, rfl, r⟩
  | _, _, i + 1, d, .cons _ t, e => by
    obtain ⟨v, h1, h2⟩ := RpAll.get (i := i) (d := d) t (by simpa using e)
    exact ⟨v, by simpa using h1, h2⟩
theorem RpAll.getV : ∀ {vs : List V} {ds : List PyData} {i : Nat} {v : V}, RpAll K H vs ds → vs[i]? = some v → ∃ d, ds[i]? = some d ∧ Rp K H v d
  | _, _, _, _, .nil, e => by simp at e
  | _, _, 0, _, .cons r _, e => by simp at e; subst e; exact ⟨_, rfl, r⟩
  | _, _, i + 1, v, .cons _ t, e => by
    obtain ⟨d, h1, h2⟩ := RpAll.getV (i := i) (v := v) t (by simpa using e)
    exact ⟨d, by simpa using h1, h2⟩
theorem RpAll.append : ∀ {vs ws : List V} {ds es : List PyData}, RpAll K H vs ds → RpAll K H ws es → RpAll K H (vs ++ ws) (ds ++ es)
  | _, _, _, _, .nil, s => s
  | _, _, _, _, .cons r t, s => .cons r (RpAll.append t s)
theorem RpAll.take : ∀ {vs : List V} {ds : List PyData} (n : Nat), RpAll K H vs ds → RpAll K H (vs.take n) (ds.take n)
  | _, _, 0, _ => .nil
  | _, _, _ + 1, .nil => .nil
  | _, _, n + 1, .cons r t => .cons r (RpAll.take n t)
theorem RpAll.drop : ∀ {vs : List V} {ds : List PyData} (n : Nat), RpAll K H vs ds → RpAll K H (vs.drop n) (ds.drop n)
  | _, _, 0, r => r
  | _, _, _ + 1, .nil => .nil
  | _, _, n + 1, .cons _ t => RpAll.drop n t
theorem RpAll.set {v : V} {d : PyData} (r : Rp K H v d) : ∀ {vs : List V} {ds : List PyData} (i : Nat), RpAll K H vs ds → RpAll K H (vs.set i v) (ds.set i d)
  | _, _, _, .nil => .nil
  | _, _, 0, .cons _ t => .cons r t
  | _, _, i + 1, .cons q t => .cons q (RpAll.set r i t)
theorem RpAll.reverse {vs : List V} {ds : List PyData} (h : RpAll K H vs ds) : RpAll K H vs.reverse ds.reverse := by
  induction vs generalizing ds with
  | nil => cases h; exact .nil
  | cons v vs ih =>
    cases h with
    | cons r t =>
      rw [List.reverse_cons, List.reverse_cons]
      exact (ih t).append (.cons r .nil)
theorem RpAll.eraseIdx : ∀ {vs : List V} {ds : List PyData} (i : Nat), RpAll K H vs ds → RpAll K H (vs.eraseIdx i) (ds.eraseIdx i)
  | _, _, _, .nil => .nil
  | _, _, 0, .cons _ t => t
  | _, _, i + 1, .cons q t => .cons q (RpAll.eraseIdx i t)
theorem RpAll.dropLast {vs : List V} {ds : List PyData} (h : RpAll K H vs ds) : RpAll K H vs.dropLast ds.dropLast := by
  rw [List.dropLast_eq_take, List.dropLast_eq_take, h.length]
  exact h.take _
theorem RpAll.flat {vs : List V} {ds : List PyData} (h : RpAll K H vs ds) : ∀ n : Nat, RpAll K H (List.replicate n vs).flatten (List.replicate n ds).flatten
  | 0 => .nil
  | n + 1 => by
    rw [List.replicate_succ, List.replicate_succ, List.flatten_cons, List.flatten_cons]
    exact h.append (h.flat n)
theorem RpAll.bools : ∀ {bs : List Bool} {vs : List V}, RpAll K H vs (bs.map .bool) → vs = bs.map V.bl
  | [], _, .nil => rfl
  | b :: bs, _, .cons r t => by cases r; rw [RpAll.bools t]; rfl
theorem RpAll.ints : ∀ {ns : List Int} {vs : List V}, RpAll K H vs (ns.map .int) → vs = ns.map V.int
  | [], _, .nil => rfl
  | b :: bs, _, .cons r t => by cases r; rw [RpAll.ints t]; rfl
theorem RpAll.strs : ∀ {ns : List Str} {vs : List V}, RpAll K H vs (ns.map .str) → vs = ns.map V.str
  | [], _, .nil => rfl
  | b :: bs, _, .cons r t => by cases r; rw [RpAll.strs t]; rfl
theorem RpAll.of_ints : ∀ (ns : List Int), RpAll K H (ns.map V.int) (ns.map .int)
  | [] => .nil
  | n :: ns => .cons (.int n) (RpAll.of_ints ns)
theorem RpAll.of_strs : ∀ (ns : List Str), RpAll K H (ns.map V.str) (ns.map .str)
  | [] => .nil
  | n :: ns => .cons (.str n) (RpAll.of_strs ns)
end

/-! ### slots -/
/-- what is told of a slot: nothing; it holds these data, that stand still; it holds a list of its own (b: borrowed from the caller) -/
inductive SD where
  | un
  | d (x : PyData)
  | own (b : Bool) (xs : List PyData)

/-- a frame's entry: the heap, what is known of it, the slots -/
structure Fr where
  H0 : Hp
  G0 : Hp
  Dl : List SD
  s0 : L2.St
/-- a is the address of a list that is borrowed -/
def Fr.B (F : Fr) (a : Addr) : Prop := ∃ (i : Nat) (b : Bool) (xs : List PyData), F.Dl[i]? = some (.own b xs) ∧ F.s0[i]? = some (some (.ref a))

/-- the slots S as they are told, the heap H, of which G is known and stands still -/
structure SR (K : PySem.W.Frag) (F : Fr) (S : List SD) (σ : L2.St) (H G : Hp) : Prop where
  len : σ.length = S.length
  g0 : Ex F.G0 G
  gh : Ex G H
  new : ∀ b, G b ≠ none → F.G0 b ≠ none ∨ F.H0 b = none
  keep : ∀ b o, F.H0 b = some o → ¬ F.B b → H b = some o
  live : ∀ b, F.H0 b ≠ none → H b ≠ none
  dat : ∀ (i : Nat) (x : PyData), S[i]? = some (.d x) → ∃ v, σ[i]? = some (some v) ∧ Rp K G v x
  own : ∀ (i : Nat) (b : Bool) (xs : List PyData), S[i]? = some (.own b xs) → ∃ a vs, σ[i]? = some (some (.ref a)) ∧ G a = none ∧ H a = some (.lst vs) ∧ RpAll K G vs xs ∧
    (b = true → F.B a ∧ F.s0[i]? = some (some (.ref a))) ∧ (b = false → F.H0 a = none)
  sep : ∀ (i j : Nat) (a : Addr) (b1 : Bool) (x1 : List PyData) (b2 : Bool) (x2 : List PyData), S[i]? = some (.own b1 x1) → S[j]? = some (.own b2 x2) → σ[i]? = some (some (.ref a)) → σ[j]? = some (some (.ref a)) → i = j

/-- the heap grows by new known objects alone -/
structure PX (G H G' H' : Hp) : Prop where
  gg : Ex G G'
  hh : Ex H H'
  gh : Ex G' H'
  new : ∀ b, G' b ≠ none → G b ≠ none ∨ H b = none
theorem PX.refl {G H : Hp} (e : Ex G H) : PX G H G H := ⟨.refl _, .refl _, e, fun _ h => .inl h⟩
theorem PX.trans {G H G1 H1 G2 H2 : Hp} (a : PX G H G1 H1) (b : PX G1 H1 G2 H2) : PX G H G2 H2 :=
  ⟨a.gg.trans b.gg, a.hh.trans b.hh, b.gh, fun x h => (b.new x h).elim (a.new x) fun q => .inr (a.hh.free q)⟩
/-- a new object, known -/
theorem PX.laid {G H : Hp} {p : Addr} {o : HO} (e : Ex G H) (h : H p = none) : PX G H (upd G p o) (upd H p o) := by
  refine ⟨.new (e.free h), .new h, fun b u q => ?_, fun b q => ?_⟩
  · by_cases hb : b = p
    · subst hb; rw [upd_same] at q ⊢; exact q
    · rw [upd_ne hb] at q ⊢; exact e b u q
  · by_cases hb : b = p
    · subst hb; exact .inr h
    · rw [upd_ne hb] at q; exact .inl q
/-- a new object, unknown -/
theorem PX.side {G H : Hp} {p : Addr} {o : HO} (e : Ex G H) (h : H p = none) : PX G H G (upd H p o) :=
  ⟨.refl _, .new h, e.trans (.new h), fun _ q => .inl q⟩

section
variable {K : PySem.W.Frag} {F : Fr} {S S' : List SD} {σ : L2.St} {H G H' G' : Hp}
theorem SR.ext (r : SR K F S σ H G) (p : PX G H G' H') : SR K F S σ H' G' := by
  refine ⟨r.len, r.g0.trans p.gg, p.gh, fun b h => ?_, fun b o h n => p.hh b o (r.keep b o h n), fun b h => p.hh.live (r.live b h), fun i x h => ?_, fun i b xs h => ?_, r.sep⟩
  · rcases p.new b h with q | q
    · exact r.new b q
    · cases z : F.H0 b with
      | none => exact .inr rfl
      | some o => exact absurd q (r.live b (by rw [z]; simp))
  · obtain ⟨v, h1, h2⟩ := r.dat i x h
    exact ⟨v, h1, h2.mono p.gg⟩
  · obtain ⟨a, vs, h1, h2, h3, h4, h5⟩ := r.own i b xs h
    refine ⟨a, vs, h1, ?_, p.hh a _ h3, h4.mono p.gg, h5⟩
    cases z : G' a with
    | none => rfl
    | some o =>
      rcases p.new a (by rw [z]; simp) with q | q
      · exact absurd h2 q
      · rw [h3] at q; cases q
/-- a slot is given data -/
theorem SR.setD (r : SR K F S σ H G) (i : Nat) {v : V} {x : PyData} (h : Rp K G v x) : SR K F (S.set i (.d x)) (σ.set i (some v)) H G := by
  have L := r.len
  refine ⟨by simp [L], r.g0, r.gh, r.new, r.keep, r.live, fun j y e => ?_, fun j b xs e => ?_, fun j k a b1 x1 b2 x2 e1 e2 e3 e4 => ?_⟩
  · by_cases hj : i = j
    · subst hj
      by_cases hl : i < S.length
      · rw [List.getElem?_set_self hl] at e
        cases e
        exact ⟨v, by rw [List.getElem?_set_self (by omega)], h⟩
      · rw [List.getElem?_eq_none (by simpa using Nat.le_of_not_lt hl)] at e; cases e
    · rw [List.getElem?_set_ne hj] at e ⊢
      exact r.dat j y e
  · by_cases hj : i = j
    · subst hj
      by_cases hl : i < S.length
      · rw [List.getElem?_set_self hl] at e; cases e
      · rw [List.getElem?_eq_none (by simpa using Nat.le_of_not_lt hl)] at e; cases e
    · rw [List.getElem?_set_ne hj] at e ⊢
      exact r.own j b xs e
  · have ne : ∀ m c y, (S.set i (.d x))[m]? = some (.own c y) → i ≠ m := fun m c y e q => by
      subst q
      by_cases hl : i < S.length
      · rw [List.getElem?_set_self hl] at e; cases e
      · rw [List.getElem?_eq_none (by simpa using Nat.le_of_not_lt hl)] at e; cases e
    have n1 := ne _ _ _ e1
    have n2 := ne _ _ _ e2
    rw [List.getElem?_set_ne n1] at e1 e3
    rw [List.getElem?_set_ne n2] at e2 e4
    exact r.sep j k a b1 x1 b2 x2 e1 e2 e3 e4
/-- an address that no slot owns -/
def Apart (S : List SD) (σ : L2.St) (a : Addr) : Prop := ∀ (i : Nat) (b : Bool) (xs : List PyData), S[i]? = some (.own b xs) → σ[i]? ≠ some (some (.ref a))
/-- a slot is given a fresh list -/
theorem SR.setO (r : SR K F S σ H G) (i : Nat) {a : Addr} {vs : List V} {xs : List PyData} (hg : G a = none) (hh : H a = some (.lst vs)) (h : RpAll K G vs xs) (h0 : F.H0 a = none) (ap : Apart S σ a) :
    SR K F (S.set i (.own false xs)) (σ.set i (some (.ref a))) H G := by
  have L := r.len
  refine ⟨by simp [L], r.g0, r.gh, r.new, r.keep, r.live, fun j y e => ?_, fun j b ys e => ?_, fun j k c b1 x1 b2 x2 e1 e2 e3 e4 => ?_⟩
  · by_cases hj : i = j
    · subst hj
      by_cases hl : i < S.length
      · rw [List.getElem?_set_self hl] at e; cases e
      · rw [List.getElem?_eq_none (by simpa using Nat.le_of_not_lt hl)] at e; cases e
    · rw [List.getElem?_set_ne hj] at e ⊢
      exact r.dat j y e
  · by_cases hj : i = j
    · subst hj
      by_cases hl : i < S.length
      · rw [List.getElem?_set_self hl] at e
        cases e
        exact ⟨a, vs, by rw [List.getElem?_set_self (by omega)], hg, hh, h, (fun q => by cases q), fun _ => h0⟩
      · rw [List.getElem?_eq_none (by simpa using Nat.le_of_not_lt hl)] at e; cases e
    · rw [List.getElem?_set_ne hj] at e ⊢
      exact r.own j b ys e
  · by_cases hj : i = j
    · by_cases hk : i = k
      · exact hj.symm.trans hk
      · subst hj
        rw [List.getElem?_set_ne hk] at e2 e4
        by_cases hl : i < S.length
        · rw [List.getElem?_set_self (by omega)] at e3
          cases e3
          exact absurd e4 (ap k _ _ e2)
        · rw [List.getElem?_eq_none (by simpa using Nat.le_of_not_lt hl)] at e1; cases e1
    · rw [List.getElem?_set_ne hj] at e1 e3
      by_cases hk : i = k
      · subst hk
        by_cases hl : i < S.length
        · rw [List.getElem?_set_self (by omega)] at e4
          cases e4
          exact absurd e3 (ap j _ _ e1)
        · rw [List.getElem?_eq_none (by simpa using Nat.le_of_not_lt hl)] at e2; cases e2
      · rw [List.getElem?_set_ne hk] at e2 e4
        exact r.sep j k c b1 x1 b2 x2 e1 e2 e3 e4
/-- a slot's list becomes known -/
theorem SR.freeze (r : SR K F S σ H G) {i : Nat} {xs : List PyData} (e : S[i]? = some (.own false xs)) :
    ∃ v G', Ex G G' ∧ σ[i]? = some (some v) ∧ Rp K G' v (.list xs) ∧ SR K F (S.set i (.d (.list xs))) σ H G' := by
  obtain ⟨a, vs, h1, h2, h3, h4, _, h6⟩ := r.own i _ _ e
  have e0 : F.H0 a = none := h6 rfl
  have eg : Ex G (upd G a (.lst vs)) := .new h2
  have hl : i < S.length := (List.getElem?_eq_some_iff.mp e).1
  have rp : Rp K (upd G a (.lst vs)) (.ref a) (.list xs) := .lst upd_same (h4.mono eg)
  refine ⟨.ref a, upd G a (.lst vs), eg, h1, rp, ⟨by simp [r.len], r.g0.trans eg, fun b o q => ?_, fun b q => ?_, r.keep, r.live, fun j y q => ?_, fun j b ys q => ?_, fun j k c b1 x1 b2 x2 e1 e2 e3 e4 => ?_⟩⟩
  · by_cases hb : b = a
    · subst hb; rw [upd_same] at q; cases q; exact h3
    · rw [upd_ne hb] at q; exact r.gh b o q
  · by_cases hb : b = a
    · subst hb; exact .inr e0
    · rw [upd_ne hb] at q; exact r.new b q
  · by_cases hj : i = j
    · subst hj
      rw [List.getElem?_set_self hl] at q
      cases q
      exact ⟨.ref a, h1, rp⟩
    · rw [List.getElem?_set_ne hj] at q
      obtain ⟨v, q1, q2⟩ := r.dat j y q
      exact ⟨v, q1, q2.mono eg⟩
  · by_cases hj : i = j
    · subst hj
      rw [List.getElem?_set_self hl] at q; cases q
    · rw [List.getElem?_set_ne hj] at q
      obtain ⟨c, ws, q1, q2, q3, q4, q5⟩ := r.own j b ys q
      refine ⟨c, ws, q1, ?_, q3, q4.mono eg, q5⟩
      have nc : c ≠ a := fun z => by
        subst z
        exact hj (r.sep i j c _ _ _ _ e q h1 q1)
      rw [upd_ne nc]; exact q2
  · have ne : ∀ m c y, (S.set i (.d (.list xs)))[m]? = some (.own c y) → i ≠ m := fun m c y e q => by
      subst q
      rw [List.getElem?_set_self hl] at e; cases e
    have n1 := ne _ _ _ e1
    have n2 := ne _ _ _ e2
    rw [List.getElem?_set_ne n1] at e1
    rw [List.getElem?_set_ne n2] at e2
    exact r.sep j k c b1 x1 b2 x2 e1 e2 e3 e4
/-- a slot's list is written -/
theorem SR.write (r : SR K F S σ H G) {i : Nat} {b : Bool} {xs ys : List PyData} {a : Addr} {ws : List V} (e : S[i]? = some (.own b xs)) (ea : σ[i]? = some (some (.ref a))) (hw : RpAll K G ws ys) :
    SR K F (S.set i (.own b ys)) σ (upd H a (.lst ws)) G := by
  obtain ⟨a', vs, h1, h2, h3, h4, h5, h6⟩ := r.own i _ _ e
  have ea' : a = a' := by rw [ea] at h1; exact V.ref.inj (Option.some.inj (Option.some.inj h1))
  subst ea'
  have hl : i < S.length := (List.getElem?_eq_some_iff.mp e).1
  refine ⟨by simp [r.len], r.g0, fun c o q => ?_, r.new, fun c o q n => ?_, fun c q => ?_, fun j y q => ?_, fun j c zs q => ?_, fun j k c b1 x1 b2 x2 e1 e2 e3 e4 => ?_⟩
  · rw [upd_ne (ne_of_none q h2)]; exact r.gh c o q
  · have nc : c ≠ a := fun z => by
      subst z
      cases b with
      | true => exact n (h5 rfl).1
      | false => rw [h6 rfl] at q; cases q
    rw [upd_ne nc]; exact r.keep c o q n
  · by_cases hc : c = a
    · subst hc; rw [upd_same]; simp
    · rw [upd_ne hc]; exact r.live c q
  · by_cases hj : i = j
    · subst hj
      rw [List.getElem?_set_self hl] at q; cases q
    · rw [List.getElem?_set_ne hj] at q
      exact r.dat j y q
  · by_cases hj : i = j
    · subst hj
      rw [List.getElem?_set_self hl] at q
      cases q
      exact ⟨a, ws, ea, h2, upd_same, hw, h5, h6⟩
    · rw [List.getElem?_set_ne hj] at q
      obtain ⟨d, us, q1, q2, q3, q4, q5⟩ := r.own j c zs q
      refine ⟨d, us, q1, q2, ?_, q4, q5⟩
      have nd : d ≠ a := fun z => by
        subst z
        exact hj (r.sep i j d _ _ _ _ e q ea q1)
      rw [upd_ne nd]; exact q3
  · have own : ∀ (m : Nat) (c : Bool) (y : List PyData), (S.set i (.own b ys))[m]? = some (.own c y) → ∃ (c' : Bool) (y' : List PyData), S[m]? = some (.own c' y') := fun m c y e' => by
      by_cases hm : i = m
      · subst hm; exact ⟨_, _, e⟩
      · rw [List.getElem?_set_ne hm] at e'; exact ⟨_, _, e'⟩
    obtain ⟨_, _, z1⟩ := own _ _ _ e1
    obtain ⟨_, _, z2⟩ := own _ _ _ e2
    exact r.sep j k c _ _ _ _ z1 z2 e3 e4
/-- nothing told any more -/
theorem SR.forget (r : SR K F S σ H G) (i : Nat) (o : Option V) : SR K F (S.set i .un) (σ.set i o) H G := by
  have L := r.len
  have nD : ∀ m y, (S.set i .un)[m]? = some (.d y) → i ≠ m := fun m y e q => by
    subst q
    by_cases hl : i < S.length
    · rw [List.getElem?_set_self hl] at e; cases e
    · rw [List.getElem?_eq_none (by simpa using Nat.le_of_not_lt hl)] at e; cases e
  have nO : ∀ m c y, (S.set i .un)[m]? = some (.own c y) → i ≠ m := fun m c y e q => by
    subst q
    by_cases hl : i < S.length
    · rw [List.getElem?_set_self hl] at e; cases e
    · rw [List.getElem?_eq_none (by simpa using Nat.le_of_not_lt hl)] at e; cases e
  refine ⟨by simp [L], r.g0, r.gh, r.new, r.keep, r.live, fun j y e => ?_, fun j b xs e => ?_, fun j k a b1 x1 b2 x2 e1 e2 e3 e4 => ?_⟩
  · have n := nD j y e
    rw [List.getElem?_set_ne n] at e ⊢
    exact r.dat j y e
  · have n := nO j b xs e
    rw [List.getElem?_set_ne n] at e ⊢
    exact r.own j b xs e
  · have n1 := nO _ _ _ e1
    have n2 := nO _ _ _ e2
    rw [List.getElem?_set_ne n1] at e1 e3
    rw [List.getElem?_set_ne n2] at e2 e4
    exact r.sep j k a b1 x1 b2 x2 e1 e2 e3 e4
theorem SR.fresh (r : SR K F S σ H G) {p : Addr} (h : H p = none) : F.H0 p = none ∧ G p = none ∧ Apart S σ p := by
  refine ⟨?_, r.gh.free h, fun i b xs e q => ?_⟩
  · cases z : F.H0 p with
    | none => rfl
    | some o => exact absurd h (r.live p (by rw [z]; simp))
  · obtain ⟨a, vs, h1, _, h3, _⟩ := r.own i b xs e
    rw [h1] at q
    cases q
    rw [h3] at h; cases h
end
end DL

set_option Elab.async false
set_option linter.all false
set_option maxRecDepth 100000
set_option maxHeartbeats 4000000
/-! DL, part 2: what an expression means on slots, and that its reading keeps to it. -/
namespace DL
open PySem PySem.Spec PyProof.Rows L2

/-! ### operands -/
inductive Op where
  | dat (x : PyData)
  | slot (i : Nat)
def sdGet : SD → Option PyData
  | .d x => some x
  | .own _ xs => some (.list xs)
  | .un => none
def Op.get (S : List SD) : Op → Option PyData
  | .dat x => some x
  | .slot i => (S[i]?).bind sdGet
def OpR (K : PySem.W.Frag) (G : Hp) (σ : L2.St) (v : V) : Op → Prop
  | .dat x => Rp K G v x
  | .slot i => σ[i]? = some (some v)
/-- what stands at v: known data, or a list of known items -/
def RV (K : PySem.W.Frag) (G H : Hp) (v : V) (x : PyData) : Prop := Rp K G v x ∨ ∃ a vs xs, x = .list xs ∧ v = .ref a ∧ H a = some (.lst vs) ∧ RpAll K G vs xs
section
variable {K : PySem.W.Frag} {F : Fr} {S S' : List SD} {σ : L2.St} {H G H' G' : Hp} {v : V} {x : PyData} {o : Op}
theorem OpR.mono (e : Ex G G') (h : OpR K G σ v o) : OpR K G' σ v o := by
  cases o with
  | dat x => exact Rp.mono e h
  | slot i => exact h
theorem op_get (r : SR K F S σ H G) (h : OpR K G σ v o) (e : o.get S = some x) : RV K G H v x := by
  cases o with
  | dat y => cases e; exact .inl h
  | slot i =>
    have h : σ[i]? = some (some v) := h
    have e : (S[i]?).bind sdGet = some x := e
    cases q : S[i]? with
    | none => rw [q] at e; cases e
    | some sd =>
      rw [q] at e
      cases sd with
      | un => cases e
      | d y =>
        cases e
        obtain ⟨w, h1, h2⟩ := r.dat i _ q
        rw [h] at h1; cases h1
        exact .inl h2
      | own b xs =>
        cases e
        obtain ⟨a, vs, h1, h2, h3, h4, _⟩ := r.own i _ _ q
        rw [h] at h1; cases h1
        exact .inr ⟨a, vs, xs, rfl, rfl, h3, h4⟩
theorem RV.rp (e : Ex G H) (h : RV K G H v x) : Rp K H v x := by
  rcases h with h | ⟨a, vs, xs, rfl, rfl, h3, h4⟩
  · exact h.mono e
  · exact .lst h3 (h4.mono e)
theorem RV.non (h : RV K G H v .none) : v = .non := by
  rcases h with h | ⟨a, vs, xs, e, _⟩
  · cases h; rfl
  · cases e
theorem RV.bl {b : Bool} (h : RV K G H v (.bool b)) : v = .bl b := by
  rcases h with h | ⟨a, vs, xs, e, _⟩
  · cases h; rfl
  · cases e
theorem RV.int {i : Int} (h : RV K G H v (.int i)) : v = .int i := by
  rcases h with h | ⟨a, vs, xs, e, _⟩
  · cases h; rfl
  · cases e
theorem RV.str {i : Str} (h : RV K G H v (.str i)) : v = .str i := by
  rcases h with h | ⟨a, vs, xs, e, _⟩
  · cases h; rfl
  · cases e
theorem RV.lst {xs : List PyData} (e : Ex G H) (h : RV K G H v (.list xs)) : ∃ a vs, v = .ref a ∧ H a = some (.lst vs) ∧ RpAll K G vs xs := by
  rcases h with h | ⟨a, vs, xs, q, h2, h3, h4⟩
  · cases h with
    | lst h1 h2 => exact ⟨_, _, rfl, e _ _ h1, h2⟩
  · cases q
    exact ⟨a, vs, h2, h3, h4⟩
theorem RV.tup {xs : List PyData} (e : Ex G H) (h : RV K G H v (.tuple xs)) : ∃ a vs, v = .ref a ∧ SqT K H a vs ∧ RpAll K G vs xs := by
  rcases h with h | ⟨a, vs, xs, q, h2, h3, h4⟩
  · cases h with
    | tup h1 h2 => exact ⟨_, _, rfl, e.st h1, h2⟩
  · cases q
theorem RV.dic {xs : List (PyData × PyData)} (e : Ex G H) (hx : ∀ ds, xs ≠ [(.none, .list ds)]) (h : RV K G H v (.dict xs)) : ∃ a vs, v = .ref a ∧ Rd H a (.dK vs) ∧ RpKV K G vs xs := by
  rcases h with h | ⟨a, vs, xs, q, h2, h3, h4⟩
  · cases h with
    | dic h1 h2 => exact ⟨_, _, rfl, e.rd h1, h2⟩
    | scr _ _ => exact absurd rfl (hx _)
  · cases q
theorem RpKV.notNone {ds : List PyData} {kvs : List (Key × V)} (h : RpKV K G kvs [(.none, .list ds)]) : False := by
  cases kvs with
  | nil => cases h
  | cons p r =>
    obtain ⟨k, v⟩ := p
    cases k <;> cases h
theorem RV.scr {ds : List PyData} (e : Ex G H) (h : RV K G H v (.dict [(.none, .list ds)])) : ∃ a vs, v = .ref a ∧ SqL K H a vs ∧ RpAll K G vs ds := by
  rcases h with h | ⟨a, vs, xs, q, h2, h3, h4⟩
  · cases h with
    | dic h1 h2 => exact h2.notNone.elim
    | scr h1 h2 => exact ⟨_, _, rfl, e.sl h1, h2⟩
  · cases q
end

/-! ### values by values -/
/-- a two-place rule on values keeps to g -/
def V2 (K : PySem.W.Frag) (r : R2) (g : PyData → PyData → Option PyData) : Prop :=
  ∀ (G H : Hp) (v w : V) (x y z : PyData), Ex G H → RV K G H v x → RV K G H w y → g x y = some z → ∀ Q : VK, (∀ u H' G', PX G H G' H' → Rp K G' u z → Q u H') → r v w H Q
def V1 (K : PySem.W.Frag) (r : V → Hp → VK → Prop) (g : PyData → Option PyData) : Prop :=
  ∀ (G H : Hp) (v : V) (x z : PyData), Ex G H → RV K G H v x → g x = some z → ∀ Q : VK, (∀ u H' G', PX G H G' H' → Rp K G' u z → Q u H') → r v H Q
inductive RVs (K : PySem.W.Frag) (G H : Hp) : List V → List PyData → Prop
  | nil : RVs K G H [] []
  | cons {v : V} {vs : List V} {x : PyData} {xs : List PyData} : RV K G H v x → RVs K G H vs xs → RVs K G H (v :: vs) (x :: xs)
def VN (K : PySem.W.Frag) (r : List V → Hp → VK → Prop) (g : List PyData → Option PyData) : Prop :=
  ∀ (G H : Hp) (vs : List V) (xs : List PyData) (z : PyData), Ex G H → RVs K G H vs xs → g xs = some z → ∀ Q : VK, (∀ u H' G', PX G H G' H' → Rp K G' u z → Q u H') → r vs H Q
def V2L (K : PySem.W.Frag) (r : R2) (g : PyData → PyData → Option (List PyData)) : Prop :=
  ∀ (G H : Hp) (v w : V) (x y : PyData) (zs : List PyData), Ex G H → RV K G H v x → RV K G H w y → g x y = some zs → ∀ Q : VK, (∀ p ws H' G', PX G H G' H' → H p = none → G' p = none → H' p = some (.lst ws) → RpAll K G' ws zs → Q (.ref p) H') → r v w H Q
/-- .. where a new list comes out -/
def VL (K : PySem.W.Frag) (r : List V → Hp → VK → Prop) (g : List PyData → Option (List PyData)) : Prop :=
  ∀ (G H : Hp) (vs : List V) (xs : List PyData) (zs : List PyData), Ex G H → RVs K G H vs xs → g xs = some zs → ∀ Q : VK, (∀ p ws H' G', PX G H G' H' → H p = none → G' p = none → H' p = some (.lst ws) → RpAll K G' ws zs → Q (.ref p) H') → r vs H Q

/-! ### what readings keep to -/
abbrev ES := List SD → Option (Op × List SD)
abbrev BS := List SD → Option (Bool × List SD)
abbrev AS := List SD → Option (List Op × List SD)
abbrev LS := List SD → Option (List PyData × List SD)
abbrev DS := List SD → Option (PyData × List SD)
inductive OpRs (K : PySem.W.Frag) (G : Hp) (σ : L2.St) : List V → List Op → Prop
  | nil : OpRs K G σ [] []
  | cons {v : V} {vs : List V} {o : Op} {os : List Op} : OpR K G σ v o → OpRs K G σ vs os → OpRs K G σ (v :: vs) (o :: os)
def SemE (K : PySem.W.Frag) (t : TE) (f : ES) : Prop := ∀ F S σ H G o S', SR K F S σ H G → f S = some (o, S') → ∀ Q : VK, (∀ v H' G', SR K F S' σ H' G' → Ex G G' → OpR K G' σ v o → Q v H') → t σ H Q
def SemB (K : PySem.W.Frag) (t : TT) (f : BS) : Prop := ∀ F S σ H G b S', SR K F S σ H G → f S = some (b, S') → ∀ Q : Bool → Hp → Prop, (∀ H' G', SR K F S' σ H' G' → Ex G G' → Q b H') → t σ H Q
def SemA (K : PySem.W.Frag) (t : TA) (f : AS) : Prop := ∀ F S σ H G os S', SR K F S σ H G → f S = some (os, S') → ∀ Q : List V → Hp → Prop, (∀ vs H' G', SR K F S' σ H' G' → Ex G G' → OpRs K G' σ vs os → Q vs H') → t σ H Q
/-- a new list comes out -/
def SemL (K : PySem.W.Frag) (t : TE) (f : LS) : Prop := ∀ F S σ H G xs S', SR K F S σ H G → f S = some (xs, S') → ∀ Q : VK, (∀ p vs H' G', SR K F S' σ H' G' → Ex G G' → F.H0 p = none → G' p = none → Apart S' σ p → H' p = some (.lst vs) → RpAll K G' vs xs → Q (.ref p) H') → t σ H Q
/-- data are wanted: a slot's own list stands still from then on -/
def SemD (K : PySem.W.Frag) (t : TE) (f : DS) : Prop := ∀ F S σ H G x S', SR K F S σ H G → f S = some (x, S') → ∀ Q : VK, (∀ v H' G', SR K F S' σ H' G' → Ex G G' → Rp K G' v x → Q v H') → t σ H Q
structure SE (X : Cx) (K : PySem.W.Frag) (e : Expr) (t : TE) (f : ES) : Prop where
  p : PE X e t
  ok : SemE K t f
structure ST (X : Cx) (K : PySem.W.Frag) (e : Expr) (t : TT) (f : BS) : Prop where
  p : PT X e t
  ok : SemB K t f
structure SW (X : Cx) (K : PySem.W.Frag) (e : Expr) (t : TT) (f : BS) : Prop where
  p : PW X e t
  ok : SemB K t f
structure SA (X : Cx) (K : PySem.W.Frag) (es : List Expr) (t : TA) (f : AS) : Prop where
  p : PA X es t
  ok : SemA K t f
structure SL (X : Cx) (K : PySem.W.Frag) (e : Expr) (t : TE) (f : LS) : Prop where
  p : PE X e t
  ok : SemL K t f
structure SDt (X : Cx) (K : PySem.W.Frag) (e : Expr) (t : TE) (f : DS) : Prop where
  p : PE X e t
  ok : SemD K t f

section
variable {K : PySem.W.Frag} {F : Fr} {S S' : List SD} {σ : L2.St} {H G H' G' : Hp}
theorem OpRs.mono (e : Ex G G') : ∀ {vs : List V} {os : List Op}, OpRs K G σ vs os → OpRs K G' σ vs os
  | _, _, .nil => .nil
  | _, _, .cons h t => .cons (OpR.mono e h) (OpRs.mono e t)
def getAll (S : List SD) : List Op → Option (List PyData)
  | [] => some []
  | o :: os => (o.get S).bind fun x => (getAll S os).map fun xs => x :: xs
theorem ops_get (r : SR K F S σ H G) : ∀ {vs : List V} {os : List Op} {xs : List PyData}, OpRs K G σ vs os → getAll S os = some xs → RVs K G H vs xs
  | _, _, _, .nil, e => by cases e; exact .nil
  | _, o :: os, _, .cons h t, e => by
    unfold getAll at e
    obtain ⟨x, e1, e⟩ := Option.bind_eq_some_iff.mp e
    obtain ⟨xs, e2, rfl⟩ := Option.map_eq_some_iff.mp e
    exact .cons (op_get r h e1) (ops_get r t e2)
/-- a slot's list is frozen, data are taken -/
def takeS (S : List SD) (i : Nat) : Option SD → Option (PyData × List SD)
  | some (.d x) => some (x, S)
  | some (.own false xs) => some (.list xs, S.set i (.d (.list xs)))
  | _ => none
def takeO (S : List SD) : Op → Option (PyData × List SD)
  | .dat x => some (x, S)
  | .slot i => takeS S i (S[i]?)
theorem take_ok {v : V} {o : Op} {x : PyData} (r : SR K F S σ H G) (h : OpR K G σ v o) (e : takeO S o = some (x, S')) : ∃ G', Ex G G' ∧ SR K F S' σ H G' ∧ Rp K G' v x := by
  cases o with
  | dat y => cases e; exact ⟨G, .refl _, r, h⟩
  | slot i =>
    have h : σ[i]? = some (some v) := h
    have e : takeS S i (S[i]?) = some (x, S') := e
    cases q : S[i]? with
    | none => rw [q] at e; cases e
    | some sd =>
      rw [q] at e
      cases sd with
      | un => cases e
      | d y =>
        cases e
        obtain ⟨w, h1, h2⟩ := r.dat i _ q
        rw [h] at h1; cases h1
        exact ⟨G, .refl _, r, h2⟩
      | own b xs =>
        cases b with
        | true => cases e
        | false =>
          cases e
          obtain ⟨w, G', h1, h2, h3, h4⟩ := r.freeze q
          rw [h] at h2; cases h2
          exact ⟨G', h1, h4, h3⟩
def takeAll (S : List SD) : List Op → Option (List PyData × List SD)
  | [] => some ([], S)
  | o :: os => (takeO S o).bind fun p => (takeAll p.2 os).map fun q => (p.1 :: q.1, q.2)
theorem takeAll_ok : ∀ {vs : List V} {os : List Op} {xs : List PyData} {S S' : List SD} {G : Hp}, SR K F S σ H G → OpRs K G σ vs os → takeAll S os = some (xs, S') → ∃ G', Ex G G' ∧ SR K F S' σ H G' ∧ RpAll K G' vs xs
  | _, _, _, _, _, G, r, .nil, e => by cases e; exact ⟨G, .refl _, r, .nil⟩
  | _, o :: os, _, S, S', G, r, .cons h t, e => by
    unfold takeAll at e
    obtain ⟨⟨x, S1⟩, e1, e⟩ := Option.bind_eq_some_iff.mp e
    obtain ⟨⟨xs, S2⟩, e2, e3⟩ := Option.map_eq_some_iff.mp e
    cases e3
    obtain ⟨G1, g1, r1, h1⟩ := take_ok r h e1
    obtain ⟨G2, g2, r2, h2⟩ := takeAll_ok r1 (t.mono g1) e2
    exact ⟨G2, g1.trans g2, r2, .cons (h1.mono g2) h2⟩
end

section
variable {K : PySem.W.Frag} {ta tb tc te : TE} {tt tu : TT} {tA : TA} {fe fa fb fc : ES} {ft fu : BS} {fs : AS} {fl : LS} {fd : DS}
/-! ### names, constants -/
def sdTold : Option SD → Bool
  | some (.d _) => true
  | some (.own _ _) => true
  | _ => false
def sVar (i : Nat) : ES := fun S => if sdTold (S[i]?) = true then some (.slot i, S) else none
theorem sem_var {i : Nat} : SemE K (tVar i) (sVar i) := by
  intro F S σ H G o S' r ef Q k
  have ef : (if sdTold (S[i]?) = true then some (Op.slot i, S) else none) = some (o, S') := ef
  cases q : S[i]? with
  | none => rw [q] at ef; cases ef
  | some sd =>
    rw [q] at ef
    cases sd with
    | un => cases ef
    | d x =>
      cases ef
      obtain ⟨v, h1, _⟩ := r.dat i _ q
      exact ⟨v, h1, k v H G r (.refl _) h1⟩
    | own b' xs =>
      cases ef
      obtain ⟨a', vs, h1, _⟩ := r.own i _ _ q
      exact ⟨_, h1, k _ H G r (.refl _) h1⟩
def sC (x : PyData) : ES := fun S => some (.dat x, S)
theorem sem_c {v : V} {x : PyData} (hr : ∀ G, Rp K G v x) : SemE K (tC v) (sC x) := by
  intro F S σ H G o S' r ef Q k
  cases ef
  exact k v H G r (.refl _) (hr G)
/-! ### data, new lists -/
def sTake (f : ES) : DS := fun S => (f S).bind fun p => takeO p.2 p.1
theorem sem_take (hs : SemE K te fe) : SemD K te (sTake fe) := by
  intro F S σ H G x S' r ef Q k
  obtain ⟨⟨o, S1⟩, e1, e2⟩ := Option.bind_eq_some_iff.mp ef
  refine hs F S σ H G o S1 r e1 Q fun v H' G' r1 g1 h1 => ?_
  obtain ⟨G2, g2, r2, h2⟩ := take_ok r1 h1 e2
  exact k v H' G2 r2 (g1.trans g2) h2
def sDat (f : DS) : ES := fun S => (f S).map fun p => (.dat p.1, p.2)
theorem sem_dat (hs : SemD K te fd) : SemE K te (sDat fd) := by
  intro F S σ H G x S' r ef Q k
  obtain ⟨⟨o, S1⟩, e1, e2⟩ := Option.map_eq_some_iff.mp ef
  cases e2
  exact hs F S σ H G o _ r e1 Q fun v H' G' r1 g1 h1 => k v H' G' r1 g1 h1
def sKeep (f : LS) : ES := fun S => (f S).map fun p => (.dat (.list p.1), p.2)
theorem SR.known {K : PySem.W.Frag} {F : Fr} {S : List SD} {σ : L2.St} {H G : Hp} {p : Addr} {vs : List V} {xs : List PyData} (r : SR K F S σ H G) (h0 : F.H0 p = none) (hg : G p = none) (ap : Apart S σ p) (hh : H p = some (.lst vs)) (h : RpAll K G vs xs) :
    ∃ G', Ex G G' ∧ SR K F S σ H G' ∧ Rp K G' (.ref p) (.list xs) := by
  have eg : Ex G (upd G p (.lst vs)) := .new hg
  refine ⟨_, eg, ⟨r.len, r.g0.trans eg, fun b o q => ?_, fun b q => ?_, r.keep, r.live, fun j y q => ?_, fun j b ys q => ?_, r.sep⟩, .lst upd_same (h.mono eg)⟩
  · by_cases hb : b = p
    · subst hb; rw [upd_same] at q; cases q; exact hh
    · rw [upd_ne hb] at q; exact r.gh b o q
  · by_cases hb : b = p
    · subst hb; exact .inr h0
    · rw [upd_ne hb] at q; exact r.new b q
  · obtain ⟨v, q1, q2⟩ := r.dat j y q
    exact ⟨v, q1, q2.mono eg⟩
  · obtain ⟨c, ws, q1, q2, q3, q4, q5⟩ := r.own j b ys q
    refine ⟨c, ws, q1, ?_, q3, q4.mono eg, q5⟩
    have nc : c ≠ p := fun z => by subst z; exact ap j _ _ q q1
    rw [upd_ne nc]; exact q2
theorem sem_keep (hs : SemL K te fl) : SemE K te (sKeep fl) := by
  intro F S σ H G o S' r ef Q k
  obtain ⟨⟨xs, S1⟩, e1, e2⟩ := Option.map_eq_some_iff.mp ef
  cases e2
  refine hs F S σ H G xs _ r e1 Q fun p vs H' G' r1 g1 h0 hg ap hh h1 => ?_
  obtain ⟨G2, g2, r2, h2⟩ := r1.known h0 hg ap hh h1
  exact k _ H' G2 r2 (g1.trans g2) h2
/-! ### arguments -/
def sNil : AS := fun S => some ([], S)
def sCons (f : ES) (g : AS) : AS := fun S => (f S).bind fun p => (g p.2).map fun q => (p.1 :: q.1, q.2)
theorem sem_nil : SemA K tNil sNil := by
  intro F S σ H G o S' r ef Q k
  cases ef
  exact k _ H G r (.refl _) .nil
theorem sem_cons (hs1 : SemE K te fe) (hs2 : SemA K tA fs) : SemA K (tCons te tA) (sCons fe fs) := by
  intro F S σ H G o S' r ef Q k
  obtain ⟨⟨o1, S1⟩, e1, e2⟩ := Option.bind_eq_some_iff.mp ef
  obtain ⟨⟨o2, S2⟩, e3, e4⟩ := Option.map_eq_some_iff.mp e2
  cases e4
  refine hs1 F S σ H G o1 S1 r e1 _ fun v H1 G1 r1 g1 h1 => ?_
  refine hs2 F S1 σ H1 G1 o2 _ r1 e3 _ fun vs H2 G2 r2 g2 h2 => ?_
  exact k _ H2 G2 r2 (g1.trans g2) (.cons (h1.mono g2) h2)
/-! ### operators -/
def sBin (g : PyData → PyData → Option PyData) (f f' : ES) : ES := fun S => (f S).bind fun p => (f' p.2).bind fun q => (p.1.get q.2).bind fun x => (q.1.get q.2).bind fun y => (g x y).map fun z => (.dat z, q.2)
theorem sem_bin {r2 : R2} {g : PyData → PyData → Option PyData} (hv : V2 K r2 g) (ha : SemE K ta fa) (hb : SemE K tb fb) : SemE K (tOp r2 ta tb) (sBin g fa fb) := by
  intro F S σ H G o S' r ef Q k
  obtain ⟨⟨o1, S1⟩, e1, ef⟩ := Option.bind_eq_some_iff.mp ef
  obtain ⟨⟨o2, S2⟩, e2, ef⟩ := Option.bind_eq_some_iff.mp ef
  obtain ⟨x, e3, ef⟩ := Option.bind_eq_some_iff.mp ef
  obtain ⟨y, e4, ef⟩ := Option.bind_eq_some_iff.mp ef
  obtain ⟨z, e5, ef⟩ := Option.map_eq_some_iff.mp ef
  cases ef
  refine ha F S σ H G o1 S1 r e1 _ fun v H1 G1 r1 g1 h1 => ?_
  refine hb F S1 σ H1 G1 o2 _ r1 e2 _ fun w H2 G2 r2 g2 h2 => ?_
  refine hv G2 H2 v w x y z r2.gh (op_get r2 (h1.mono g2) e3) (op_get r2 h2 e4) e5 Q fun u H3 G3 p h3 => ?_
  exact k u H3 G3 (r2.ext p) ((g1.trans g2).trans p.gg) h3
def sBinL (g : PyData → PyData → Option (List PyData)) (f f' : ES) : LS := fun S => (f S).bind fun p => (f' p.2).bind fun q => (p.1.get q.2).bind fun x => (q.1.get q.2).bind fun y => (g x y).map fun z => (z, q.2)
theorem sem_binL {r2 : R2} {g : PyData → PyData → Option (List PyData)} (hv : V2L K r2 g) (ha : SemE K ta fa) (hb : SemE K tb fb) : SemL K (tOp r2 ta tb) (sBinL g fa fb) := by
  intro F S σ H G o S' r ef Q k
  obtain ⟨⟨o1, S1⟩, e1, ef⟩ := Option.bind_eq_some_iff.mp ef
  obtain ⟨⟨o2, S2⟩, e2, ef⟩ := Option.bind_eq_some_iff.mp ef
  obtain ⟨x, e3, ef⟩ := Option.bind_eq_some_iff.mp ef
  obtain ⟨y, e4, ef⟩ := Option.bind_eq_some_iff.mp ef
  obtain ⟨z, e5, ef⟩ := Option.map_eq_some_iff.mp ef
  cases ef
  refine ha F S σ H G o1 S1 r e1 _ fun v H1 G1 r1 g1 h1 => ?_
  refine hb F S1 σ H1 G1 o2 _ r1 e2 _ fun w H2 G2 r2 g2 h2 => ?_
  refine hv G2 H2 v w x y _ r2.gh (op_get r2 (h1.mono g2) e3) (op_get r2 h2 e4) e5 Q fun p ws H3 G3 px hn hg hh h3 => ?_
  obtain ⟨f0, _, fa⟩ := r2.fresh hn
  exact k p ws H3 G3 (r2.ext px) ((g1.trans g2).trans px.gg) f0 hg fa hh h3
def dBool : PyData → Option Bool
  | .bool b => some b
  | _ => none
/-- a value that is True or False, as a test -/
def sTest (f : ES) : BS := fun S => (f S).bind fun p => (p.1.get p.2).bind fun x => (dBool x).map fun b => (b, p.2)
theorem dBool_some {x : PyData} {b : Bool} (h : dBool x = some b) : x = .bool b := by
  cases x with
  | bool c => cases h; rfl
  | _ => cases h
theorem sem_test (ha : SemE K ta fa) : SemB K (tTest ta) (sTest fa) := by
  intro F S σ H G b S' r ef Q k
  obtain ⟨⟨o1, S1⟩, e1, ef⟩ := Option.bind_eq_some_iff.mp ef
  obtain ⟨x, e3, ef⟩ := Option.bind_eq_some_iff.mp ef
  obtain ⟨z, e5, ef⟩ := Option.map_eq_some_iff.mp ef
  cases ef
  refine ha F S σ H G o1 _ r e1 _ fun v H1 G1 r1 g1 h1 => ?_
  have hx := dBool_some e5
  subst hx
  exact ⟨_, (op_get r1 h1 e3).bl, k H1 G1 r1 g1⟩
/-! ### and, or, not, if else -/
def sAnd (f g : BS) : BS := fun S => (f S).bind fun p => if p.1 = true then g p.2 else some (false, p.2)
def sOr (f g : BS) : BS := fun S => (f S).bind fun p => if p.1 = true then some (true, p.2) else g p.2
def sNot (f : BS) : BS := fun S => (f S).map fun p => (!p.1, p.2)
theorem sem_and (hs : SemB K tt ft) (hs2 : SemB K tu fu) : SemB K (tAnd tt tu) (sAnd ft fu) := by
  intro F S σ H G b S' r ef Q k
  obtain ⟨⟨c, S1⟩, e1, ef⟩ := Option.bind_eq_some_iff.mp ef
  refine hs F S σ H G c S1 r e1 _ fun H1 G1 r1 g1 => ?_
  cases c with
  | true => exact hs2 F S1 σ H1 G1 b S' r1 ef Q fun H2 G2 r2 g2 => k H2 G2 r2 (g1.trans g2)
  | false => cases ef; exact k H1 G1 r1 g1
theorem sem_or (hs : SemB K tt ft) (hs2 : SemB K tu fu) : SemB K (tOr tt tu) (sOr ft fu) := by
  intro F S σ H G b S' r ef Q k
  obtain ⟨⟨c, S1⟩, e1, ef⟩ := Option.bind_eq_some_iff.mp ef
  refine hs F S σ H G c S1 r e1 _ fun H1 G1 r1 g1 => ?_
  cases c with
  | false => exact hs2 F S1 σ H1 G1 b S' r1 ef Q fun H2 G2 r2 g2 => k H2 G2 r2 (g1.trans g2)
  | true => cases ef; exact k H1 G1 r1 g1
theorem sem_not (hs : SemB K tt ft) : SemB K (tNot tt) (sNot ft) := by
  intro F S σ H G b S' r ef Q k
  obtain ⟨⟨c, S1⟩, e1, ef⟩ := Option.map_eq_some_iff.mp ef
  cases ef
  exact hs F S σ H G c _ r e1 _ k
/-- .. as values -/
def sAndV (f g : ES) : ES := fun S => (f S).bind fun p => (p.1.get p.2).bind fun x => (dBool x).bind fun c => if c = true then g p.2 else some (.dat (.bool false), p.2)
def sOrV (f g : ES) : ES := fun S => (f S).bind fun p => (p.1.get p.2).bind fun x => (dBool x).bind fun c => if c = true then some (.dat (.bool true), p.2) else g p.2
def sNotV (f : ES) : ES := fun S => (f S).bind fun p => (p.1.get p.2).bind fun x => (dBool x).map fun c => (.dat (.bool (!c)), p.2)
theorem sem_andV (hs : SemE K ta fa) (hs2 : SemE K tb fb) : SemE K (tAndV ta tb) (sAndV fa fb) := by
  intro F S σ H G b S' r ef Q k
  obtain ⟨⟨o, S1⟩, e1, ef⟩ := Option.bind_eq_some_iff.mp ef
  obtain ⟨x, e2, ef⟩ := Option.bind_eq_some_iff.mp ef
  obtain ⟨c, e3, ef⟩ := Option.bind_eq_some_iff.mp ef
  have hx := dBool_some e3
  subst hx
  refine hs F S σ H G o S1 r e1 _ fun v H1 G1 r1 g1 h1 => ⟨c, (op_get r1 h1 e2).bl, ?_⟩
  cases c with
  | true => exact hs2 F S1 σ H1 G1 b S' r1 ef Q fun v H2 G2 r2 g2 => k v H2 G2 r2 (g1.trans g2)
  | false => cases ef; exact k _ H1 G1 r1 g1 (.bl false)
theorem sem_orV (hs : SemE K ta fa) (hs2 : SemE K tb fb) : SemE K (tOrV ta tb) (sOrV fa fb) := by
  intro F S σ H G b S' r ef Q k
  obtain ⟨⟨o, S1⟩, e1, ef⟩ := Option.bind_eq_some_iff.mp ef
  obtain ⟨x, e2, ef⟩ := Option.bind_eq_some_iff.mp ef
  obtain ⟨c, e3, ef⟩ := Option.bind_eq_some_iff.mp ef
  have hx := dBool_some e3
  subst hx
  refine hs F S σ H G o S1 r e1 _ fun v H1 G1 r1 g1 h1 => ⟨c, (op_get r1 h1 e2).bl, ?_⟩
  cases c with
  | false => exact hs2 F S1 σ H1 G1 b S' r1 ef Q fun v H2 G2 r2 g2 => k v H2 G2 r2 (g1.trans g2)
  | true => cases ef; exact k _ H1 G1 r1 g1 (.bl true)
theorem sem_notV (hs : SemE K ta fa) : SemE K (tNotV ta) (sNotV fa) := by
  intro F S σ H G b S' r ef Q k
  obtain ⟨⟨o, S1⟩, e1, ef⟩ := Option.bind_eq_some_iff.mp ef
  obtain ⟨x, e2, ef⟩ := Option.bind_eq_some_iff.mp ef
  obtain ⟨c, e3, ef⟩ := Option.map_eq_some_iff.mp ef
  have hx := dBool_some e3
  subst hx
  cases ef
  exact hs F S σ H G o _ r e1 _ fun v H1 G1 r1 g1 h1 => ⟨c, (op_get r1 h1 e2).bl, k _ H1 G1 r1 g1 (.bl _)⟩
def sIf {α : Type} (t : BS) (f g : List SD → Option α) : List SD → Option α := fun S => (t S).bind fun p => if p.1 = true then f p.2 else g p.2
theorem sem_if (hsc : SemB K tt ft) (hs : SemE K ta fa) (hs2 : SemE K tb fb) : SemE K (tIf tt ta tb) (sIf ft fa fb) := by
  intro F S σ H G o S' r ef Q k
  obtain ⟨⟨c, S1⟩, e1, ef⟩ := Option.bind_eq_some_iff.mp ef
  refine hsc F S σ H G c S1 r e1 _ fun H1 G1 r1 g1 => ?_
  cases c with
  | true => exact hs F S1 σ H1 G1 o S' r1 ef Q fun v H2 G2 r2 g2 => k v H2 G2 r2 (g1.trans g2)
  | false => exact hs2 F S1 σ H1 G1 o S' r1 ef Q fun v H2 G2 r2 g2 => k v H2 G2 r2 (g1.trans g2)
/-- a chain of two comparisons -/
def sChain (g g' : PyData → PyData → Option PyData) (f f' f'' : ES) : ES := fun S => (f S).bind fun p => (f' p.2).bind fun q => (p.1.get q.2).bind fun x => (q.1.get q.2).bind fun y => (g x y).bind fun z => (dBool z).bind fun k =>
  if k = true then (f'' q.2).bind fun s => (q.1.get s.2).bind fun y' => (s.1.get s.2).bind fun w => (g' y' w).map fun z' => (.dat z', s.2) else some (.dat (.bool false), q.2)
theorem sem_chain {r2 r2' : R2} {g g' : PyData → PyData → Option PyData} (hv : V2 K r2 g) (hv' : V2 K r2' g') (ha : SemE K ta fa) (hb : SemE K tb fb) (hc : SemE K tc fc) : SemE K (tChain r2 r2' ta tb tc) (sChain g g' fa fb fc) := by
  intro F S σ H G o S' r ef Q k
  obtain ⟨⟨o1, S1⟩, e1, ef⟩ := Option.bind_eq_some_iff.mp ef
  obtain ⟨⟨o2, S2⟩, e2, ef⟩ := Option.bind_eq_some_iff.mp ef
  obtain ⟨x, e3, ef⟩ := Option.bind_eq_some_iff.mp ef
  obtain ⟨y, e4, ef⟩ := Option.bind_eq_some_iff.mp ef
  obtain ⟨z, e5, ef⟩ := Option.bind_eq_some_iff.mp ef
  obtain ⟨d, e6, ef⟩ := Option.bind_eq_some_iff.mp ef
  have hz := dBool_some e6
  subst hz
  refine ha F S σ H G o1 S1 r e1 _ fun v H1 G1 r1 g1 h1 => ?_
  refine hb F S1 σ H1 G1 o2 _ r1 e2 _ fun w H2 G2 r2 g2 h2 => ?_
  refine hv G2 H2 v w x y _ r2.gh (op_get r2 (h1.mono g2) e3) (op_get r2 h2 e4) e5 _ fun u H3 G3 p h3 => ?_
  have r3 := r2.ext p
  cases h3
  refine ⟨d, rfl, ?_⟩
  cases d with
  | false => cases ef; exact k _ H3 G3 r3 ((g1.trans g2).trans p.gg) (.bl false)
  | true =>
    have ef : ((fc S2).bind fun s => (o2.get s.2).bind fun y' => (s.1.get s.2).bind fun w => (g' y' w).map fun z' => (Op.dat z', s.2)) = some (o, S') := ef
    obtain ⟨⟨o4, S4⟩, f1, ef⟩ := Option.bind_eq_some_iff.mp ef
    obtain ⟨y', f2, ef⟩ := Option.bind_eq_some_iff.mp ef
    obtain ⟨w4, f3, ef⟩ := Option.bind_eq_some_iff.mp ef
    obtain ⟨z', f4, ef⟩ := Option.map_eq_some_iff.mp ef
    cases ef
    show tc σ H3 _
    refine hc F S2 σ H3 G3 o4 _ r3 f1 _ fun v4 H4 G4 r4 g4 h4 => ?_
    refine hv' G4 H4 w v4 y' w4 z' r4.gh (op_get r4 (h2.mono (p.gg.trans g4)) f2) (op_get r4 h4 f3) f4 Q fun u5 H5 G5 p5 h5 => ?_
    exact k u5 H5 G5 (r4.ext p5) ((((g1.trans g2).trans p.gg).trans g4).trans p5.gg) h5
def sUn (g : PyData → Option PyData) (f : ES) : ES := fun S => (f S).bind fun p => (p.1.get p.2).bind fun x => (g x).map fun z => (.dat z, p.2)
theorem sem_un {r1 : V → Hp → VK → Prop} {g : PyData → Option PyData} (hv : V1 K r1 g) (ka : SemE K ta fa) : SemE K (tUn r1 ta) (sUn g fa) := by
  intro F S σ H G o S' r ef Q k
  obtain ⟨⟨o1, S1⟩, e1, ef⟩ := Option.bind_eq_some_iff.mp ef
  obtain ⟨x, e3, ef⟩ := Option.bind_eq_some_iff.mp ef
  obtain ⟨z, e5, ef⟩ := Option.map_eq_some_iff.mp ef
  cases ef
  refine ka F S σ H G o1 _ r e1 _ fun v H1 G1 r1 g1 h1 => ?_
  exact hv G1 H1 v x z r1.gh (op_get r1 h1 e3) e5 Q fun u H3 G3 p h3 => k u H3 G3 (r1.ext p) (g1.trans p.gg) h3
/-! ### displays, calls of built-ins -/
theorem sz {n : Nat} (h : n ≤ 100000) : n ≤ sizeLine := Nat.le_trans h (by decide)
theorem szl {n : Nat} (h : n < 100000) : n < sizeLine := Nat.lt_of_lt_of_le h (by decide)
def sTup (f : AS) : ES := fun S => (f S).bind fun p => (takeAll p.2 p.1).bind fun q => if q.1.length ≤ 100000 then some (.dat (.tuple q.1), q.2) else none
theorem sem_tup (hs : SemA K tA fs) : SemE K (tTup tA) (sTup fs) := by
  intro F S σ H G o S' r ef Q k
  obtain ⟨⟨os, S1⟩, e1, ef⟩ := Option.bind_eq_some_iff.mp ef
  obtain ⟨⟨xs, S2⟩, e2, ef⟩ := Option.bind_eq_some_iff.mp ef
  split at ef
  · rename_i hl
    cases ef
    refine hs F S σ H G os S1 r e1 _ fun vs H1 G1 r1 g1 h1 => ?_
    obtain ⟨G2, g2, r2, h2⟩ := takeAll_ok r1 h1 e2
    refine ⟨by rw [h2.length]; exact sz hl, fun p hp => ?_⟩
    have px := PX.laid (o := .tup vs) r2.gh hp
    exact k _ _ _ (r2.ext px) ((g1.trans g2).trans px.gg) (.tup (.inl (.inl upd_same)) (h2.mono px.gg))
  · cases ef
def sLst (f : AS) : LS := fun S => (f S).bind fun p => (takeAll p.2 p.1).bind fun q => if q.1.length ≤ 100000 then some (q.1, q.2) else none
theorem sem_lst (hs : SemA K tA fs) : SemL K (tLst tA) (sLst fs) := by
  intro F S σ H G o S' r ef Q k
  obtain ⟨⟨os, S1⟩, e1, ef⟩ := Option.bind_eq_some_iff.mp ef
  obtain ⟨⟨xs, S2⟩, e2, ef⟩ := Option.bind_eq_some_iff.mp ef
  split at ef
  · rename_i hl
    cases ef
    refine hs F S σ H G os S1 r e1 _ fun vs H1 G1 r1 g1 h1 => ?_
    obtain ⟨G2, g2, r2, h2⟩ := takeAll_ok r1 h1 e2
    refine ⟨by rw [h2.length]; exact sz hl, fun p hp => ?_⟩
    obtain ⟨f0, fg, fa⟩ := r2.fresh hp
    have px := PX.side (o := .lst vs) r2.gh hp
    exact k _ _ _ _ (r2.ext px) (g1.trans g2) f0 fg fa upd_same h2
  · cases ef
/-- a built-in's call: the operands as they stand behind the last of them -/
def sCB (g : List PyData → Option PyData) (f : AS) : ES := fun S => (f S).bind fun p => (getAll p.2 p.1).bind fun xs => (g xs).map fun z => (.dat z, p.2)
def sCBL (g : List PyData → Option (List PyData)) (f : AS) : LS := fun S => (f S).bind fun p => (getAll p.2 p.1).bind fun xs => (g xs).map fun z => (z, p.2)
theorem sem_cb {r2 : List V → Hp → VK → Prop} {g : List PyData → Option PyData} (hv : VN K r2 g) (ha : SemA K tA fs) : SemE K (tCB r2 tA) (sCB g fs) := by
  intro F S σ H G o S' r ef Q k
  obtain ⟨⟨os, S1⟩, e1, ef⟩ := Option.bind_eq_some_iff.mp ef
  obtain ⟨xs, e3, ef⟩ := Option.bind_eq_some_iff.mp ef
  obtain ⟨z, e5, ef⟩ := Option.map_eq_some_iff.mp ef
  cases ef
  refine ha F S σ H G os _ r e1 _ fun vs H1 G1 r1 g1 h1 => ?_
  exact hv G1 H1 vs xs z r1.gh (ops_get r1 h1 e3) e5 Q fun u H3 G3 p h3 => k u H3 G3 (r1.ext p) (g1.trans p.gg) h3
theorem sem_cbl {r2 : List V → Hp → VK → Prop} {g : List PyData → Option (List PyData)} (hv : VL K r2 g) (ha : SemA K tA fs) : SemL K (tCB r2 tA) (sCBL g fs) := by
  intro F S σ H G o S' r ef Q k
  obtain ⟨⟨os, S1⟩, e1, ef⟩ := Option.bind_eq_some_iff.mp ef
  obtain ⟨xs, e3, ef⟩ := Option.bind_eq_some_iff.mp ef
  obtain ⟨z, e5, ef⟩ := Option.map_eq_some_iff.mp ef
  cases ef
  refine ha F S σ H G os _ r e1 _ fun vs H1 G1 r1 g1 h1 => ?_
  refine hv G1 H1 vs xs _ r1.gh (ops_get r1 h1 e3) e5 Q fun p ws H3 G3 px hn hg hh h3 => ?_
  obtain ⟨f0, _, fa⟩ := r1.fresh hn
  exact k p ws H3 G3 (r1.ext px) (g1.trans px.gg) f0 hg fa hh h3
end

/-! ### the rules for the text -/
section
variable {X : Cx} {K : PySem.W.Frag} {e a b c : Expr} {es : List Expr} {pos : Pos} {ta tb tc te : TE} {tt tu : TT} {tA : TA} {fe fa fb fc : ES} {ft fu : BS} {fs : AS} {fl : LS} {fd : DS}
theorem se_var {i : Nat} (h : PE X e (tVar i)) : SE X K e (tVar i) (sVar i) := ⟨h, sem_var⟩
theorem se_int {i : Int} {j} : SE X K (.Constant (.int i) j pos) (tC (.int i)) (sC (.int i)) := ⟨pe_int, sem_c fun _ => .int i⟩
theorem se_bl {i : Bool} {j} : SE X K (.Constant (.bool i) j pos) (tC (.bl i)) (sC (.bool i)) := ⟨pe_bl, sem_c fun _ => .bl i⟩
theorem se_non {j} : SE X K (.Constant .none j pos) (tC .non) (sC .none) := ⟨pe_non, sem_c fun _ => .non⟩
theorem se_str {i : Str} {j} : SE X K (.Constant (.str i) j pos) (tC (.str i)) (sC (.str i)) := ⟨pe_str, sem_c fun _ => .str i⟩
/-- a constant of the module -/
structure GK (K : PySem.W.Frag) (mg : Str → Option Value) (x : Str) (v : V) (d : PyData) : Prop where
  to : ∃ u, mg x = some u ∧ RelV v u
  rp : ∀ G, Rp K G v d
theorem se_glob {x : Str} {v : V} {d : PyData} (h : GK K X.mg x v d) (hg : Gl X x := by rfl) (hd : (x == ("__debug__" : Str)) = false := by decide) : SE X K (.Name x pos) (tC v) (sC d) := by
  obtain ⟨⟨u, h1, h2⟩, h3⟩ := h
  exact ⟨pe_glob hg h1 h2 hd, sem_c h3⟩
theorem sd_se (h : SE X K e te fe) : SDt X K e te (sTake fe) := ⟨h.p, sem_take h.ok⟩
theorem se_sd (h : SDt X K e te fd) : SE X K e te (sDat fd) := ⟨h.p, sem_dat h.ok⟩
theorem se_sl (h : SL X K e te fl) : SE X K e te (sKeep fl) := ⟨h.p, sem_keep h.ok⟩
theorem sa_nil : SA X K [] tNil sNil := ⟨pa_nil, sem_nil⟩
theorem sa_cons (h : SE X K e te fe) (h2 : SA X K es tA fs) (hs : starEach (e :: es) X.env = (false, eval e X.env) :: starEach es X.env := by rfl) : SA X K (e :: es) (tCons te tA) (sCons fe fs) := ⟨pa_cons h.p h2.p hs, sem_cons h.ok h2.ok⟩
theorem se_bin {op : Operator} {r : R2} {g : PyData → PyData → Option PyData} (ho : L2.OpR X (binaryOp op) r) (hv : V2 K r g) (ha : SE X K a ta fa) (hb : SE X K b tb fb) : SE X K (.BinOp a op b pos) (tOp r ta tb) (sBin g fa fb) := ⟨pe_op ho ha.p hb.p, sem_bin hv ha.ok hb.ok⟩
theorem sl_bin {op : Operator} {r : R2} {g : PyData → PyData → Option (List PyData)} (ho : L2.OpR X (binaryOp op) r) (hv : V2L K r g) (ha : SE X K a ta fa) (hb : SE X K b tb fb) : SL X K (.BinOp a op b pos) (tOp r ta tb) (sBinL g fa fb) := ⟨pe_op ho ha.p hb.p, sem_binL hv ha.ok hb.ok⟩
theorem se_cmp {op : CmpOp} {r : R2} {g : PyData → PyData → Option PyData} (ho : L2.OpR X (compareOp op) r) (hv : V2 K r g) (ha : SE X K a ta fa) (hb : SE X K b tb fb) (hm : behindInMarks op b = false := by rfl) : SE X K (.Compare a [op] [b] pos) (tOp r ta tb) (sBin g fa fb) := ⟨pe_cmpR ho ha.p hb.p hm, sem_bin hv ha.ok hb.ok⟩
theorem se_ix {r : R2} {g : PyData → PyData → Option PyData} (ho : IxR X r) (hv : V2 K r g) (ha : SE X K a ta fa) (hb : SE X K b tb fb) (hs : PlainIx b := by exact fun _ _ => rfl) : SE X K (.Subscript a b pos) (tOp r ta tb) (sBin g fa fb) := ⟨pe_ix ho ha.p hb.p hs, sem_bin hv ha.ok hb.ok⟩
theorem st_val (h : SE X K e te fe) (he : ∀ whole, isTrue e X.env whole = (do let v ← whole; standAt e.pos; holding [v] (truthy v)) := by intro _; rfl) : ST X K e (tB te) (sTest fe) := ⟨pt_val h.p he, sem_test h.ok⟩
theorem st_cmp {op : CmpOp} {r : R2} {g : PyData → PyData → Option PyData} (ho : L2.OpR X (compareOp op) r) (hv : V2 K r g) (ha : SE X K a ta fa) (hb : SE X K b tb fb) (hm : behindInMarks op b = false := by rfl) : ST X K (.Compare a [op] [b] pos) (tTest (tOp r ta tb)) (sTest (sBin g fa fb)) := ⟨pt_cmpR ho ha.p hb.p hm, sem_test (sem_bin hv ha.ok hb.ok)⟩
theorem sw_and1 (h : ST X K a tt ft) : SW X K (.BoolOp .And [a] pos) tt ft := ⟨pw_and1 h.p, h.ok⟩
theorem sw_or1 (h : ST X K a tt ft) : SW X K (.BoolOp .Or [a] pos) tt ft := ⟨pw_or1 h.p, h.ok⟩
theorem st_sw (h : SW X K a tt ft) : ST X K a tt ft := ⟨h.p.pt, h.ok⟩
theorem sw_and {rest : List Expr} (h : ST X K a tt ft) (h2 : SW X K (.BoolOp .And (b :: rest) pos) tu fu) : SW X K (.BoolOp .And (a :: b :: rest) pos) (tAnd tt tu) (sAnd ft fu) := ⟨pw_and h.p h2.p, sem_and h.ok h2.ok⟩
theorem sw_or {rest : List Expr} (h : ST X K a tt ft) (h2 : SW X K (.BoolOp .Or (b :: rest) pos) tu fu) : SW X K (.BoolOp .Or (a :: b :: rest) pos) (tOr tt tu) (sOr ft fu) := ⟨pw_or h.p h2.p, sem_or h.ok h2.ok⟩
theorem st_not (h : ST X K a tt ft) : ST X K (.UnaryOp .Not a pos) (tNot tt) (sNot ft) := ⟨pt_not h.p, sem_not h.ok⟩
theorem se_one {op} (h : SE X K a ta fa) : SE X K (.BoolOp op [a] pos) ta fa := ⟨pe_one h.p, h.ok⟩
theorem se_and {rest : List Expr} (h : SE X K a ta fa) (h2 : SE X K (.BoolOp .And (b :: rest) pos) tb fb) : SE X K (.BoolOp .And (a :: b :: rest) pos) (tAndV ta tb) (sAndV fa fb) := ⟨pe_and h.p h2.p, sem_andV h.ok h2.ok⟩
theorem se_or {rest : List Expr} (h : SE X K a ta fa) (h2 : SE X K (.BoolOp .Or (b :: rest) pos) tb fb) : SE X K (.BoolOp .Or (a :: b :: rest) pos) (tOrV ta tb) (sOrV fa fb) := ⟨pe_or h.p h2.p, sem_orV h.ok h2.ok⟩
theorem se_not (h : SE X K a ta fa) : SE X K (.UnaryOp .Not a pos) (tNotV ta) (sNotV fa) := ⟨pe_not h.p, sem_notV h.ok⟩
theorem se_if (hc : ST X K c tt ft) (h : SE X K a ta fa) (h2 : SE X K b tb fb) : SE X K (.IfExp c a b pos) (tIf tt ta tb) (sIf ft fa fb) := ⟨pe_ifExp hc.p h.p h2.p, sem_if hc.ok h.ok h2.ok⟩
theorem se_chain {op op' : CmpOp} {r r' : R2} {g g' : PyData → PyData → Option PyData} (ho : L2.OpR X (compareOp op) r) (hv : V2 K r g) (ho' : L2.OpR X (compareOp op') r') (hv' : V2 K r' g') (ha : SE X K a ta fa) (hb : SE X K b tb fb) (hc : SE X K c tc fc) (hm : lastMarks [op, op'] [b, c] = false := by rfl) :
    SE X K (.Compare a [op, op'] [b, c] pos) (tChain r r' ta tb tc) (sChain g g' fa fb fc) := ⟨pe_chain ho ho' ha.p hb.p hc.p hm, sem_chain hv hv' ha.ok hb.ok hc.ok⟩
theorem st_chain {op op' : CmpOp} {r r' : R2} {g g' : PyData → PyData → Option PyData} (ho : L2.OpR X (compareOp op) r) (hv : V2 K r g) (ho' : L2.OpR X (compareOp op') r') (hv' : V2 K r' g') (ha : SE X K a ta fa) (hb : SE X K b tb fb) (hc : SE X K c tc fc) (hm : lastMarks [op, op'] [b, c] = false := by rfl) :
    ST X K (.Compare a [op, op'] [b, c] pos) (tTest (tChain r r' ta tb tc)) (sTest (sChain g g' fa fb fc)) := ⟨pt_chain ho ho' ha.p hb.p hc.p hm, sem_test (sem_chain hv hv' ha.ok hb.ok hc.ok)⟩
theorem se_un {op : UnaryOp} {r : V → Hp → VK → Prop} {g : PyData → Option PyData} (ho : UnR X (unaryOp op) r) (hv : V1 K r g) (ha : SE X K a ta fa) : SE X K (.UnaryOp op a pos) (tUn r ta) (sUn g fa) := ⟨pe_un ho ha.p, sem_un hv ha.ok⟩
theorem se_tup {k} (h : SA X K es tA fs) : SE X K (.Tuple es k pos) (tTup tA) (sTup fs) := ⟨pe_tup h.p, sem_tup h.ok⟩
theorem sl_lst (h : SA X K es tA fs) : SL X K (.List es pos) (tLst tA) (sLst fs) := ⟨pe_lst h.p, sem_lst h.ok⟩
theorem se_cb {x : Str} {p : Pos} {id : String} {r : List V → Hp → VK → Prop} {g : List PyData → Option PyData} (hc : CallR X (.builtin id) r) (hv : VN K r g) (hm : X.mg x = none) (hb : bootBuiltins x = some (.builtin id)) (ha : SA X K (e :: es) tA fs) (hg : Gl X x := by rfl)
    (hn : x ≠ "__name__" := by decide) (hdb : (x == ("__debug__" : Str)) = false := by decide) (he : starEach (e :: es) X.env = (false, eval e X.env) :: starEach es X.env := by rfl) (hpl : (backTo pos (starEach es X.env)).any (·.1) = false := by rfl) : SE X K (.Call (.Name x p) (e :: es) [] pos) (tCB r tA) (sCB g fs) :=
  ⟨pe_callB hc hg hm hb ha.p hn hdb he hpl, sem_cb hv ha.ok⟩
theorem se_ct {x : Str} {p : Pos} {T : String} {r : List V → Hp → VK → Prop} {g : List PyData → Option PyData} (hc : CallR X (.type T) r) (hv : VN K r g) (hm : X.mg x = none) (hb : bootBuiltins x = some (.type T)) (ha : SA X K (e :: es) tA fs) (hg : Gl X x := by rfl)
    (hn : x ≠ "__name__" := by decide) (hdb : (x == ("__debug__" : Str)) = false := by decide) (he : starEach (e :: es) X.env = (false, eval e X.env) :: starEach es X.env := by rfl) (hpl : (backTo pos (starEach es X.env)).any (·.1) = false := by rfl) : SE X K (.Call (.Name x p) (e :: es) [] pos) (tCB r tA) (sCB g fs) :=
  ⟨pe_callTy hc hg hm hb ha.p hn hdb he hpl, sem_cb hv ha.ok⟩
theorem sl_cb {x : Str} {p : Pos} {id : String} {r : List V → Hp → VK → Prop} {g : List PyData → Option (List PyData)} (hc : CallR X (.builtin id) r) (hv : VL K r g) (hm : X.mg x = none) (hb : bootBuiltins x = some (.builtin id)) (ha : SA X K (e :: es) tA fs) (hg : Gl X x := by rfl)
    (hn : x ≠ "__name__" := by decide) (hdb : (x == ("__debug__" : Str)) = false := by decide) (he : starEach (e :: es) X.env = (false, eval e X.env) :: starEach es X.env := by rfl) (hpl : (backTo pos (starEach es X.env)).any (·.1) = false := by rfl) : SL X K (.Call (.Name x p) (e :: es) [] pos) (tCB r tA) (sCBL g fs) :=
  ⟨pe_callB hc hg hm hb ha.p hn hdb he hpl, sem_cbl hv ha.ok⟩
theorem sl_ct {x : Str} {p : Pos} {T : String} {r : List V → Hp → VK → Prop} {g : List PyData → Option (List PyData)} (hc : CallR X (.type T) r) (hv : VL K r g) (hm : X.mg x = none) (hb : bootBuiltins x = some (.type T)) (ha : SA X K (e :: es) tA fs) (hg : Gl X x := by rfl)
    (hn : x ≠ "__name__" := by decide) (hdb : (x == ("__debug__" : Str)) = false := by decide) (he : starEach (e :: es) X.env = (false, eval e X.env) :: starEach es X.env := by rfl) (hpl : (backTo pos (starEach es X.env)).any (·.1) = false := by rfl) : SL X K (.Call (.Name x p) (e :: es) [] pos) (tCB r tA) (sCBL g fs) :=
  ⟨pe_callTy hc hg hm hb ha.p hn hdb he hpl, sem_cbl hv ha.ok⟩
end
end DL

set_option Elab.async false
set_option linter.all false
set_option maxRecDepth 100000
set_option maxHeartbeats 4000000
/-! DL, part 3: frames within frames, targets, walks, comprehensions, statements. -/
namespace DL
open PySem PySem.Spec PyProof.Rows L2

/-! ### frames within frames -/
section
variable {K : PySem.W.Frag} {F F' : Fr} {S S' T : List SD} {σ σ' : L2.St} {H G H' G' : Hp}
theorem SR.back (r : SR K F S σ H G) (r' : SR K F' S' σ' H' G') (h0 : F'.H0 = H) (g0 : F'.G0 = G)
    (hown : ∀ a, F'.B a → ∃ (j : Nat) (c : Bool) (ys : List PyData), S[j]? = some (.own c ys) ∧ σ[j]? = some (some (.ref a)))
    (hT : T.length = S.length) (hTd : ∀ (j : Nat) x, T[j]? = some (.d x) → S[j]? = some (.d x))
    (hTo : ∀ (j : Nat) (b : Bool) (xs : List PyData), T[j]? = some (.own b xs) → (∃ ys, S[j]? = some (.own b ys)) ∧ ∃ a, σ[j]? = some (some (.ref a)) ∧
      ((∃ i : Nat, S'[i]? = some (.own true xs) ∧ F'.s0[i]? = some (some (.ref a))) ∨ (S[j]? = some (.own b xs) ∧ ¬ F'.B a))) : SR K F T σ H' G' := by
  subst h0 g0
  refine ⟨by rw [r.len, hT], r.g0.trans r'.g0, r'.gh, fun b h => ?_, fun b o h n => ?_, fun b h => r'.live b (r.live b h), fun j x e => ?_, fun j b xs e => ?_, fun i j a b1 x1 b2 x2 e1 e2 e3 e4 => ?_⟩
  · rcases r'.new b h with q | q
    · exact r.new b q
    · cases z : F.H0 b with
      | none => exact .inr rfl
      | some o => exact absurd q (r.live b (by rw [z]; simp))
  · refine r'.keep b o (r.keep b o h n) fun hb => ?_
    obtain ⟨j, c, ys, q1, q2⟩ := hown b hb
    obtain ⟨a, vs, p1, _, _, _, p5, p6⟩ := r.own j c ys q1
    rw [q2] at p1
    cases p1
    cases c with
    | true => exact n (p5 rfl).1
    | false => rw [p6 rfl] at h; cases h
  · obtain ⟨v, h1, h2⟩ := r.dat j x (hTd j x e)
    exact ⟨v, h1, h2.mono r'.g0⟩
  · obtain ⟨⟨ys, q1⟩, a, q2, q3⟩ := hTo j b xs e
    obtain ⟨a', vs, p1, p2, p3, p4, p5, p6⟩ := r.own j b ys q1
    rw [q2] at p1
    cases p1
    rcases q3 with ⟨i, z1, z2⟩ | ⟨z1, z2⟩
    · obtain ⟨c, ws, t1, t2, t3, t4, t5, _⟩ := r'.own i _ _ z1
      have t6 := (t5 rfl).2
      rw [z2] at t6
      cases t6
      exact ⟨a, ws, q2, t2, t3, t4, p5, p6⟩
    · rw [q1] at z1
      cases z1
      refine ⟨a, vs, q2, ?_, r'.keep a _ p3 z2, p4.mono r'.g0, p5, p6⟩
      cases z : G' a with
      | none => rfl
      | some o =>
        rcases r'.new a (by rw [z]; simp) with q | q
        · exact absurd p2 q
        · rw [p3] at q; cases q
  · obtain ⟨⟨y1, z1⟩, _⟩ := hTo i b1 x1 e1
    obtain ⟨⟨y2, z2⟩, _⟩ := hTo j b2 x2 e2
    exact r.sep i j a b1 y1 b2 y2 z1 z2 e3 e4
/-- an object of ours that no slot tells is written -/
theorem SR.side (r : SR K F S σ H G) {p : Addr} {o : HO} (h0 : F.H0 p = none) (hg : G p = none) (ap : Apart S σ p) : SR K F S σ (upd H p o) G := by
  refine ⟨r.len, r.g0, fun c u q => ?_, r.new, fun c u q n => ?_, fun c q => ?_, r.dat, fun j b xs e => ?_, r.sep⟩
  · rw [upd_ne (ne_of_none q hg)]; exact r.gh c u q
  · rw [upd_ne (ne_of_none q h0)]; exact r.keep c u q n
  · by_cases hc : c = p
    · subst hc; rw [upd_same]; simp
    · rw [upd_ne hc]; exact r.live c q
  · obtain ⟨a, vs, p1, p2, p3, p4⟩ := r.own j b xs e
    refine ⟨a, vs, p1, p2, ?_, p4⟩
    have na : a ≠ p := fun z => by subst z; exact ap j _ _ e p1
    rw [upd_ne na]; exact p3
end

/-- own lists are lent -/
def bor : SD → SD
  | .own _ xs => .own true xs
  | s => s
/-- .. but for the places vs, of which nothing is told -/
def borGo (vs : List Nat) : Nat → List SD → List SD
  | _, [] => []
  | j, s :: S => (if j ∈ vs then .un else bor s) :: borGo vs (j + 1) S
def unb1 : SD → SD → SD
  | .own b _, .own true xs => .own b xs
  | .own _ _, _ => .un
  | s, _ => s
def unbGo (vs : List Nat) : Nat → List SD → List SD → List SD
  | j, s :: S, s' :: S' => (if j ∈ vs then s else unb1 s s') :: unbGo vs (j + 1) S S'
  | _, S, [] => S.map fun _ => .un
  | _, [], _ => []
theorem borGo_get (vs : List Nat) : ∀ (S : List SD) (k i : Nat), (borGo vs k S)[i]? = (S[i]?).map fun s => if k + i ∈ vs then .un else bor s
  | [], _, _ => by simp [borGo]
  | s :: S, k, 0 => by simp [borGo]
  | s :: S, k, i + 1 => by
    have ih := borGo_get vs S (k + 1) i
    have e : k + 1 + i = k + (i + 1) := by omega
    rw [e] at ih
    simpa [borGo] using ih
theorem unbGo_len (vs : List Nat) : ∀ (S S' : List SD) (k : Nat), (unbGo vs k S S').length = S.length
  | [], [], _ => rfl
  | [], _ :: _, _ => rfl
  | _ :: _, [], _ => by simp [unbGo]
  | s :: S, s' :: S', k => by simp [unbGo, unbGo_len vs S S' (k + 1)]
theorem unbGo_d (vs : List Nat) : ∀ (S S' : List SD) (k i : Nat) (x : PyData), (unbGo vs k S S')[i]? = some (.d x) → S[i]? = some (.d x)
  | [], [], _, _, _, h => by simp [unbGo] at h
  | [], _ :: _, _, _, _, h => by simp [unbGo] at h
  | _ :: _, [], _, i, _, h => by
    simp only [unbGo, List.getElem?_map] at h
    obtain ⟨_, _, h⟩ := Option.map_eq_some_iff.mp h
    cases h
  | s :: S, s' :: S', k, 0, x, h => by
    simp only [unbGo, List.getElem?_cons_zero, Option.some.injEq] at h ⊢
    split at h
    · exact h
    · cases s with
      | own b xs => cases s' with
        | own c ys => cases c <;> cases h
        | _ => cases h
      | _ => exact h
  | s :: S, s' :: S', k, i + 1, x, h => by
    simp only [unbGo, List.getElem?_cons_succ] at h ⊢
    exact unbGo_d vs S S' (k + 1) i x h
theorem unbGo_own (vs : List Nat) : ∀ (S S' : List SD) (k i : Nat) (b : Bool) (xs : List PyData), (unbGo vs k S S')[i]? = some (.own b xs) →
    (k + i ∈ vs ∧ S[i]? = some (.own b xs)) ∨ (k + i ∉ vs ∧ (∃ ys, S[i]? = some (.own b ys)) ∧ S'[i]? = some (.own true xs))
  | [], [], _, _, _, _, h => by simp [unbGo] at h
  | [], _ :: _, _, _, _, _, h => by simp [unbGo] at h
  | _ :: _, [], _, i, _, _, h => by
    simp only [unbGo, List.getElem?_map] at h
    obtain ⟨_, _, h⟩ := Option.map_eq_some_iff.mp h
    cases h
  | s :: S, s' :: S', k, 0, b, xs, h => by
    simp only [unbGo, List.getElem?_cons_zero, Option.some.injEq] at h ⊢
    by_cases hk : k ∈ vs
    · rw [if_pos hk] at h
      exact .inl ⟨hk, h⟩
    · rw [if_neg hk] at h
      cases s with
      | own b' xs' => cases s' with
        | own c ys => cases c with
          | true => cases h; exact .inr ⟨hk, ⟨_, rfl⟩, rfl⟩
          | false => cases h
        | _ => cases h
      | _ => cases h
  | s :: S, s' :: S', k, i + 1, b, xs, h => by
    simp only [unbGo, List.getElem?_cons_succ] at h ⊢
    have ih := unbGo_own vs S S' (k + 1) i b xs h
    have e : k + 1 + i = k + (i + 1) := by omega
    rw [e] at ih
    exact ih
theorem wipe_get (σ : L2.St) (i : Nat) : ∀ vs : List Nat, i ∉ vs → (wipe σ vs)[i]? = σ[i]?
  | [], _ => rfl
  | v :: vs, h => by
    have h1 : v ≠ i := fun e => h (by simp [e])
    unfold wipe
    rw [List.getElem?_set_ne h1]
    exact wipe_get σ i vs fun z => h (List.mem_cons_of_mem _ z)
theorem wipe_get_in (σ : L2.St) (i : Nat) : ∀ vs : List Nat, i ∈ vs → (wipe σ vs)[i]? = (σ[i]?).map fun _ => none
  | [], h => absurd h (by simp)
  | v :: vs, h => by
    unfold wipe
    by_cases e : v = i
    · subst e
      by_cases hl : v < σ.length
      · rw [List.getElem?_set_self (by rw [wipe_length]; exact hl), List.getElem?_eq_getElem hl]; rfl
      · rw [List.getElem?_eq_none (by rw [List.length_set, wipe_length]; omega), List.getElem?_eq_none (by omega)]; rfl
    · rw [List.getElem?_set_ne e]
      rcases List.mem_cons.mp h with q | q
      · exact absurd q.symm e
      · exact wipe_get_in σ i vs q
theorem wipe_ext {σ σ' : L2.St} {vs : List Nat} (h : ∀ i, i ∉ vs → σ[i]? = σ'[i]?) (hl : σ.length = σ'.length) : wipe σ vs = wipe σ' vs := by
  apply List.ext_getElem?
  intro i
  by_cases hi : i ∈ vs
  · rw [wipe_get_in _ _ _ hi, wipe_get_in _ _ _ hi]
    by_cases q : i < σ.length
    · rw [List.getElem?_eq_getElem q, List.getElem?_eq_getElem (by omega)]; rfl
    · rw [List.getElem?_eq_none (by omega), List.getElem?_eq_none (by omega)]
  · rw [wipe_get _ _ _ hi, wipe_get _ _ _ hi]
    exact h i hi
/-- slots that are the same but at places of vs -/
def Bt (vs : List Nat) (σ σ' : L2.St) : Prop := σ.length = σ'.length ∧ ∀ i, i ∉ vs → σ[i]? = σ'[i]?
theorem Bt.refl (vs : List Nat) (σ : L2.St) : Bt vs σ σ := ⟨rfl, fun _ _ => rfl⟩
theorem Bt.trans {vs : List Nat} {a b c : L2.St} (h : Bt vs a b) (g : Bt vs b c) : Bt vs a c := ⟨h.1.trans g.1, fun i hi => (h.2 i hi).trans (g.2 i hi)⟩
theorem Bt.set {vs : List Nat} {σ : L2.St} {i : Nat} {o : Option V} (h : i ∈ vs) : Bt vs σ (σ.set i o) := ⟨by simp, fun j hj => by rw [List.getElem?_set_ne]; intro e; subst e; exact hj h⟩
theorem Bt.wiped {vs : List Nat} {σ : L2.St} : Bt vs σ (wipe σ vs) := ⟨(wipe_length σ vs).symm, fun i hi => (wipe_get σ i vs hi).symm⟩
section
variable {K : PySem.W.Frag} {F F' : Fr} {S S' T : List SD} {σ σ' : L2.St} {H G H' G' : Hp}
/-- the frame of a block (a comprehension's; vs its own names) -/
def Fr.blk (vs : List Nat) (S : List SD) (σ : L2.St) (H G : Hp) : Fr := ⟨H, G, borGo vs 0 S, wipe σ vs⟩
theorem bor_own {s : SD} {b : Bool} {xs : List PyData} (h : bor s = .own b xs) : b = true ∧ ∃ c, s = .own c xs := by
  cases s with
  | own c ys => cases h; exact ⟨rfl, c, rfl⟩
  | _ => cases h
theorem blk_own {vs : List Nat} {i : Nat} {b : Bool} {xs : List PyData} (h : (borGo vs 0 S)[i]? = some (.own b xs)) : i ∉ vs ∧ b = true ∧ ∃ c, S[i]? = some (.own c xs) := by
  rw [borGo_get, Nat.zero_add] at h
  obtain ⟨s, h1, h2⟩ := Option.map_eq_some_iff.mp h
  by_cases hi : i ∈ vs
  · rw [if_pos hi] at h2; cases h2
  · rw [if_neg hi] at h2
    obtain ⟨e, c, q⟩ := bor_own h2
    subst q
    exact ⟨hi, e, c, h1⟩
theorem SR.sub (r : SR K F S σ H G) (vs : List Nat) : SR K (Fr.blk vs S σ H G) (borGo vs 0 S) (wipe σ vs) H G := by
  have own : ∀ (i : Nat) (b : Bool) (xs : List PyData), (borGo vs 0 S)[i]? = some (.own b xs) → ∃ c, i ∉ vs ∧ b = true ∧ S[i]? = some (.own c xs) ∧ (wipe σ vs)[i]? = σ[i]? := fun i b xs e => by
    obtain ⟨h1, h2, c, h3⟩ := blk_own e
    exact ⟨c, h1, h2, h3, wipe_get σ i vs h1⟩
  refine ⟨?_, .refl _, r.gh, fun b h => .inl h, fun b o h _ => h, fun b h => h, fun i x e => ?_, fun i b xs e => ?_, fun i j a b1 x1 b2 x2 e1 e2 e3 e4 => ?_⟩
  · rw [wipe_length, r.len]
    have h : ∀ (S : List SD) (k : Nat), (borGo vs k S).length = S.length := fun S => by
      induction S with
      | nil => intro k; rfl
      | cons s S ih => intro k; simp [borGo, ih]
    exact (h S 0).symm
  · rw [borGo_get, Nat.zero_add] at e
    obtain ⟨s, h1, h2⟩ := Option.map_eq_some_iff.mp e
    by_cases hi : i ∈ vs
    · rw [if_pos hi] at h2; cases h2
    · rw [if_neg hi] at h2
      have hs : s = .d x := by
        cases s with
        | own c ys => cases h2
        | _ => exact h2
      subst hs
      rw [wipe_get σ i vs hi]
      exact r.dat i x h1
  · obtain ⟨c, hi, hb, h3, h4⟩ := own i b xs e
    obtain ⟨a, ws, p1, p2, p3, p4, _⟩ := r.own i c xs h3
    refine ⟨a, ws, h4.trans p1, p2, p3, p4, fun _ => ⟨⟨i, b, xs, e, h4.trans p1⟩, h4.trans p1⟩, fun q => ?_⟩
    rw [hb] at q; cases q
  · obtain ⟨c1, _, _, h3, h4⟩ := own i b1 x1 e1
    obtain ⟨c2, _, _, h5, h6⟩ := own j b2 x2 e2
    rw [h4] at e3
    rw [h6] at e4
    exact r.sep i j a c1 x1 c2 x2 h3 h5 e3 e4
theorem blk_B {vs : List Nat} {a : Addr} (h : (Fr.blk vs S σ H G).B a) : ∃ (j : Nat) (c : Bool) (ys : List PyData), j ∉ vs ∧ S[j]? = some (.own c ys) ∧ σ[j]? = some (some (.ref a)) := by
  obtain ⟨i, b, xs, h1, h2⟩ := h
  obtain ⟨h3, _, c, h5⟩ := blk_own h1
  have h2 : (wipe σ vs)[i]? = some (some (.ref a)) := h2
  rw [wipe_get σ i vs h3] at h2
  exact ⟨i, c, xs, h3, h5, h2⟩
/-- behind the block -/
theorem SR.unsub (r : SR K F S σ H G) {vs : List Nat} (r' : SR K (Fr.blk vs S σ H G) S' σ' H' G') : SR K F (unbGo vs 0 S S') σ H' G' := by
  refine r.back r' rfl rfl (fun a h => ?_) (unbGo_len vs S S' 0) (fun j x h => unbGo_d vs S S' 0 j x h) fun j b xs h => ?_
  · obtain ⟨j, c, ys, _, h1, h2⟩ := blk_B h
    exact ⟨j, c, ys, h1, h2⟩
  · rcases unbGo_own vs S S' 0 j b xs h with ⟨hj, h1⟩ | ⟨hj, ⟨ys, h1⟩, h2⟩
    · rw [Nat.zero_add] at hj
      obtain ⟨a, ws, p1, _⟩ := r.own j b xs h1
      refine ⟨⟨_, h1⟩, a, p1, .inr ⟨h1, fun q => ?_⟩⟩
      obtain ⟨i, c, zs, q1, q2, q3⟩ := blk_B q
      have e := r.sep i j a _ _ _ _ q2 h1 q3 p1
      subst e
      exact q1 hj
    · rw [Nat.zero_add] at hj
      obtain ⟨a, ws, p1, _⟩ := r.own j b ys h1
      exact ⟨⟨_, h1⟩, a, p1, .inl ⟨j, h2, by show (wipe σ vs)[j]? = _; rw [wipe_get σ j vs hj]; exact p1⟩⟩
/-- what a block leaves alone: an object of ours that no slot tells -/
theorem SR.aside (r : SR K F S σ H G) {vs : List Nat} (r' : SR K (Fr.blk vs S σ H G) S' σ' H' G') {p : Addr} {o : HO} (hp : H p = some o) (hg : G p = none) (ap : Apart S σ p) : H' p = some o ∧ G' p = none := by
  constructor
  · refine r'.keep p o hp fun q => ?_
    obtain ⟨j, c, ys, _, h1, h2⟩ := blk_B q
    exact ap j _ _ h1 h2
  · cases z : G' p with
    | none => rfl
    | some u =>
      rcases r'.new p (by rw [z]; simp) with q | q
      · exact absurd hg q
      · have q : H p = none := q
        rw [hp] at q; cases q
theorem apart_unb {vs : List Nat} {p : Addr} (ap : Apart S σ p) : Apart (unbGo vs 0 S S') σ p := fun i b xs h => by
  rcases unbGo_own vs S S' 0 i b xs h with ⟨_, h1⟩ | ⟨_, ⟨ys, h1⟩, _⟩
  · exact ap i b xs h1
  · exact ap i b ys h1
end

/-! ### targets -/
abbrev GS := PyData → List SD → Option (List SD)
def SemG (K : PySem.W.Frag) (t : TG) (ix : List Nat) (g : GS) : Prop := ∀ F S σ H G v x S', SR K F S σ H G → Rp K G v x → g x S = some S' → ∀ Q : L2.St → Hp → Prop, (∀ σ' H' G', SR K F S' σ' H' G' → Ex G G' → Bt ix σ σ' → Q σ' H') → t v σ H Q
def SemGs (K : PySem.W.Frag) (t : TGs) (ix : List Nat) (g : List PyData → List SD → Option (List SD)) : Prop := ∀ F S σ H G vs xs S', SR K F S σ H G → RpAll K G vs xs → g xs S = some S' → ∀ Q : L2.St → Hp → Prop, (∀ σ' H' G', SR K F S' σ' H' G' → Ex G G' → Bt ix σ σ' → Q σ' H') → t vs σ H Q
structure SG (X : Cx) (K : PySem.W.Frag) (e : Expr) (t : TG) (ix : List Nat) (g : GS) : Prop where
  p : PG X e t
  ok : SemG K t ix g
structure SGs (X : Cx) (K : PySem.W.Frag) (es : List Expr) (t : TGs) (ix : List Nat) (g : List PyData → List SD → Option (List SD)) : Prop where
  p : PGs X es t
  ok : SemGs K t ix g
def gsName (i : Nat) : GS := fun x S => some (S.set i (.d x))
theorem Bt.mono {vs ws : List Nat} {σ σ' : L2.St} (h : Bt vs σ σ') (s : ∀ i ∈ vs, i ∈ ws) : Bt ws σ σ' := ⟨h.1, fun i hi => h.2 i fun z => hi (s i z)⟩
theorem sem_gname {K : PySem.W.Frag} {i : Nat} : SemG K (gName i) [i] (gsName i) := fun F S σ H G v x S' r h e Q k => by
  cases e
  exact k _ H G (r.setD i h) (.refl _) (.set (by simp))
def gsNil : List PyData → List SD → Option (List SD)
  | [], S => some S
  | _, _ => none
def gsCons (g : GS) (gs : List PyData → List SD → Option (List SD)) : List PyData → List SD → Option (List SD)
  | x :: xs, S => (g x S).bind fun S1 => gs xs S1
  | [], _ => none
theorem sem_gnil {K : PySem.W.Frag} : SemGs K gNil [] gsNil := fun F S σ H G vs xs S' r h e Q k => by
  cases h with
  | nil => cases e; exact ⟨rfl, k _ H G r (.refl _) (.refl _ _)⟩
  | cons _ _ => cases e
theorem sem_gcons {K : PySem.W.Frag} {t : TG} {u : TGs} {ix iy : List Nat} {g : GS} {gs : List PyData → List SD → Option (List SD)} (h1 : SemG K t ix g) (h2 : SemGs K u iy gs) : SemGs K (gCons t u) (ix ++ iy) (gsCons g gs) := fun F S σ H G vs xs S' r h e Q k => by
  cases h with
  | nil => cases e
  | cons h t' =>
    obtain ⟨S1, e1, e2⟩ := Option.bind_eq_some_iff.mp e
    refine ⟨_, _, rfl, h1 F S σ H G _ _ S1 r h e1 _ fun σ1 H1 G1 r1 g1 b1 => ?_⟩
    refine h2 F S1 σ1 H1 G1 _ _ S' r1 (t'.mono g1) e2 _ fun σ2 H2 G2 r2 g2 b2 => ?_
    exact k σ2 H2 G2 r2 (g1.trans g2) ((b1.mono fun i hi => List.mem_append_left _ hi).trans (b2.mono fun i hi => List.mem_append_right _ hi))
def dTup : PyData → Option (List PyData)
  | .tuple xs => some xs
  | _ => none
theorem dTup_some {x : PyData} {xs : List PyData} (h : dTup x = some xs) : x = .tuple xs := by
  cases x with
  | tuple c => cases h; rfl
  | _ => cases h
def gsTup (n : Nat) (gs : List PyData → List SD → Option (List SD)) : GS := fun x S => (dTup x).bind fun xs => if xs.length = n then gs xs S else none
theorem sem_gtup {K : PySem.W.Frag} {u : TGs} {ix : List Nat} {n : Nat} {gs : List PyData → List SD → Option (List SD)} (h2 : SemGs K u ix gs) : SemG K (gTup K n u) ix (gsTup n gs) := fun F S σ H G v x S' r h e Q k => by
  obtain ⟨xs, e1, e2⟩ := Option.bind_eq_some_iff.mp e
  have hx := dTup_some e1
  subst hx
  split at e2
  · rename_i hn
    cases h with
    | tup ht ha => exact ⟨_, _, rfl, r.gh.st ht, by rw [ha.length]; exact hn, h2 F S σ H G _ _ S' r ha e2 Q k⟩
  · cases e2
section
variable {X : Cx} {K : PySem.W.Frag} {e : Expr} {es : List Expr} {pos : Pos} {t : TG} {u : TGs} {ix iy : List Nat} {g : GS} {gs : List PyData → List SD → Option (List SD)}
theorem sg_name {i : Nat} {x : Str} (hN : X.N.Nodup) (hi : X.N[i]? = some x := by rfl) (hx : Loc X.env.scope x := by first | exact Or.inl rfl | exact Or.inr rfl) (hf : X.fn x = true ∨ X.env.scope.names.lookup x = some .local := by first | exact Or.inl rfl | exact Or.inr rfl) : SG X K (.Name x pos) (gName i) [i] (gsName i) := ⟨pg_name hN hi hx hf, sem_gname⟩
theorem sgs_nil : SGs X K [] gNil [] gsNil := ⟨pgs_nil, sem_gnil⟩
theorem sgs_cons (h1 : SG X K e t ix g) (h2 : SGs X K es u iy gs) (hs : (assignEach (e :: es) X.env).map (·.2) = assign e X.env :: (assignEach es X.env).map (·.2) := by rfl) : SGs X K (e :: es) (gCons t u) (ix ++ iy) (gsCons g gs) := ⟨pgs_cons h1.p h2.p hs, sem_gcons h1.ok h2.ok⟩
theorem sg_tup {k n : Nat} (hK : X.K = K) (hc : X.calm = true) (h : SGs X K es u ix gs) (hn : (assignEach es X.env).length = n := by rfl) (hst : (assignEach es X.env).findIdx? (·.1) = none := by rfl) : SG X K (.Tuple es k pos) (gTup K n u) ix (gsTup n gs) := by
  subst hK
  exact ⟨pg_tup hc h.p hn hst, sem_gtup h.ok⟩
end

/-! ### what is walked -/
/-- J yields the items, one after another, whatever else grows -/
def Wk (K : PySem.W.Frag) (G1 : Hp) (J : It) (items : List PyData) : Prop := ∀ G H, Ex G1 G → Ex G H → ∀ i, (i < items.length → J.go i H ∧ ∀ v H', J.yld i H v H' → ∃ G' x, items[i]? = some x ∧ PX G H G' H' ∧ Rp K G' v x) ∧ (i = items.length → J.stop i H)
def SemI (K : PySem.W.Frag) (wi : TI) (f : LS) : Prop := ∀ F S σ H G xs S', SR K F S σ H G → f S = some (xs, S') → ∀ R : It → Hp → Prop, (∀ J H' G', SR K F S' σ H' G' → Ex G G' → Wk K G' J xs → R J H') → wi σ H R
structure SI (X : Cx) (K : PySem.W.Frag) (tg iter : Expr) (wi : TI) (f : LS) : Prop where
  p : PI X tg iter wi
  ok : SemI K wi f

/-! ### statements -/
inductive Out where
  | nx (S : List SD)
  | bk (S : List SD)
  | ct (S : List SD)
  | rt (r : SD) (S : List SD)
abbrev SSem := List SD → Option Out
def OutR (K : PySem.W.Frag) (F : Fr) (G : Hp) (D : Ends) : Out → Prop
  | .nx S => ∀ σ H G', SR K F S σ H G' → Ex G G' → D.nx σ H
  | .bk S => ∀ σ H G', SR K F S σ H G' → Ex G G' → D.bk σ H
  | .ct S => ∀ σ H G', SR K F S σ H G' → Ex G G' → D.ct σ H
  | .rt r S => ∀ v σ H G', SR K F (S ++ [r]) (σ ++ [some v]) H G' → Ex G G' → D.rt v H
def SemS (K : PySem.W.Frag) (t : TS) (f : SSem) : Prop := ∀ F S σ H G out, SR K F S σ H G → f S = some out → ∀ D : Ends, OutR K F G D out → t D σ H
structure SS (X : Cx) (K : PySem.W.Frag) (st : Stmt) (t : TS) (f : SSem) : Prop where
  p : PS X st t
  ok : SemS K t f
structure SSs (X : Cx) (K : PySem.W.Frag) (st : List Stmt) (t : TS) (f : SSem) : Prop where
  p : PSs X st t
  ok : SemS K t f
section
variable {K : PySem.W.Frag} {F : Fr} {G G' : Hp} {D : Ends} {o : Out}
theorem OutR.mono (h : OutR K F G D o) (e : Ex G G') : OutR K F G' D o := by
  cases o with
  | nx S => exact fun σ H G2 r x => h σ H G2 r (e.trans x)
  | bk S => exact fun σ H G2 r x => h σ H G2 r (e.trans x)
  | ct S => exact fun σ H G2 r x => h σ H G2 r (e.trans x)
  | rt r S => exact fun v σ H G2 r x => h v σ H G2 r (e.trans x)
/-- what follows put in nx's place -/
theorem OutR.nxt {N : L2.St → Hp → Prop} (h : OutR K F G D o) (hn : ∀ S, o = .nx S → ∀ σ H G', SR K F S σ H G' → Ex G G' → N σ H) : OutR K F G { D with nx := N } o := by
  cases o with
  | nx S => exact hn S rfl
  | bk S => exact h
  | ct S => exact h
  | rt r S => exact h
end
def sNext : SSem := fun S => some (.nx S)
def sSeq (f g : SSem) : SSem := fun S => (f S).bind fun o => match o with
  | .nx S1 => g S1
  | o => some o
section
variable {K : PySem.W.Frag} {t u tb : TS} {f f' fb : SSem} {te ta : TE} {tt : TT} {fe : ES} {fl : LS} {fd : DS} {ft : BS} {g : TG} {gs : GS} {ix : List Nat} {wi : TI} {fi : LS}
theorem sem_next : SemS K tNext sNext := fun F S σ H G out r e D h => by
  cases e
  exact h σ H G r (.refl _)
theorem sem_seq (h1 : SemS K t f) (h2 : SemS K u f') : SemS K (tSeq t u) (sSeq f f') := fun F S σ H G out r e D h => by
  obtain ⟨o, e1, e2⟩ := Option.bind_eq_some_iff.mp e
  cases o with
  | nx S1 => exact h1 F S σ H G _ r e1 _ fun σ1 H1 G1 r1 g1 => h2 F S1 σ1 H1 G1 out r1 e2 D (h.mono g1)
  | bk S1 => cases e2; exact h1 F S σ H G _ r e1 _ h
  | ct S1 => cases e2; exact h1 F S σ H G _ r e1 _ h
  | rt v S1 => cases e2; exact h1 F S σ H G _ r e1 _ h
def sBreak : SSem := fun S => some (.bk S)
def sCont : SSem := fun S => some (.ct S)
theorem sem_break : SemS K tBreak sBreak := fun F S σ H G out r e D h => by cases e; exact h σ H G r (.refl _)
theorem sem_cont : SemS K tCont sCont := fun F S σ H G out r e D h => by cases e; exact h σ H G r (.refl _)
def sNever : SSem := fun _ => none
theorem sem_never : SemS K tNever sNever := fun F S σ H G out r e D h => by cases e
def sDrop (fe : ES) : SSem := fun S => (fe S).map fun p => .nx p.2
theorem sem_drop (h1 : SemE K te fe) : SemS K (tDrop te) (sDrop fe) := fun F S σ H G out r e D h => by
  obtain ⟨⟨o, S1⟩, e1, e2⟩ := Option.map_eq_some_iff.mp e
  cases e2
  exact h1 F S σ H G o S1 r e1 _ fun v H1 G1 r1 g1 _ => h σ H1 G1 r1 g1
def sRet (fd : DS) : SSem := fun S => (fd S).map fun p => .rt (.d p.1) p.2
theorem SR.pushD {F : Fr} {S : List SD} {σ : L2.St} {H G : Hp} {v : V} {x : PyData} (r : SR K F S σ H G) (h : Rp K G v x) : SR K F (S ++ [.d x]) (σ ++ [some v]) H G := by
  have L := r.len
  have old : ∀ {i : Nat} {s : SD}, (S ++ [.d x])[i]? = some s → (i < S.length ∧ S[i]? = some s) ∨ (i = S.length ∧ s = .d x) := fun {i s} e => by
    by_cases hi : i < S.length
    · rw [List.getElem?_append_left hi] at e; exact .inl ⟨hi, e⟩
    · rw [List.getElem?_append_right (by omega)] at e
      cases q : i - S.length with
      | zero => rw [q] at e; cases e; exact .inr ⟨by omega, rfl⟩
      | succ n => rw [q] at e; simp at e
  have ow : ∀ {i : Nat} {b : Bool} {xs : List PyData}, (S ++ [.d x])[i]? = some (.own b xs) → S[i]? = some (.own b xs) ∧ (σ ++ [some v])[i]? = σ[i]? := fun {i b xs} e => by
    rcases old e with ⟨h1, h2⟩ | ⟨_, h2⟩
    · exact ⟨h2, List.getElem?_append_left (by omega)⟩
    · cases h2
  refine ⟨by simp [L], r.g0, r.gh, r.new, r.keep, r.live, fun i y e => ?_, fun i b xs e => ?_, fun i j a b1 x1 b2 x2 e1 e2 e3 e4 => ?_⟩
  · rcases old e with ⟨h1, h2⟩ | ⟨h1, h2⟩
    · rw [List.getElem?_append_left (by omega)]; exact r.dat i y h2
    · cases h2
      refine ⟨v, ?_, h⟩
      rw [List.getElem?_append_right (by omega), h1, L]
      simp
  · obtain ⟨h1, h2⟩ := ow e
    rw [h2]; exact r.own i b xs h1
  · obtain ⟨h1, h2⟩ := ow e1
    obtain ⟨h3, h4⟩ := ow e2
    rw [h2] at e3
    rw [h4] at e4
    exact r.sep i j a b1 x1 b2 x2 h1 h3 e3 e4
theorem SR.pushO {F : Fr} {S : List SD} {σ : L2.St} {H G : Hp} {p : Addr} {vs : List V} {xs : List PyData} (r : SR K F S σ H G) (h0 : F.H0 p = none) (hg : G p = none) (ap : Apart S σ p) (hh : H p = some (.lst vs)) (h : RpAll K G vs xs) : SR K F (S ++ [.own false xs]) (σ ++ [some (.ref p)]) H G := by
  have L := r.len
  have old : ∀ {i : Nat} {s : SD}, (S ++ [.own false xs])[i]? = some s → (i < S.length ∧ S[i]? = some s ∧ (σ ++ [some (.ref p)])[i]? = σ[i]?) ∨ (i = S.length ∧ s = .own false xs ∧ (σ ++ [some (.ref p)])[i]? = some (some (.ref p))) := fun {i s} e => by
    by_cases hi : i < S.length
    · rw [List.getElem?_append_left hi] at e; exact .inl ⟨hi, e, List.getElem?_append_left (by omega)⟩
    · rw [List.getElem?_append_right (by omega)] at e
      cases q : i - S.length with
      | zero => rw [q] at e; cases e; exact .inr ⟨by omega, rfl, by rw [List.getElem?_append_right (by omega), L, q]; rfl⟩
      | succ n => rw [q] at e; simp at e
  refine ⟨by simp [L], r.g0, r.gh, r.new, r.keep, r.live, fun i y e => ?_, fun i b ys e => ?_, fun i j a b1 x1 b2 x2 e1 e2 e3 e4 => ?_⟩
  · rcases old e with ⟨h1, h2, h3⟩ | ⟨h1, h2, _⟩
    · rw [h3]; exact r.dat i y h2
    · cases h2
  · rcases old e with ⟨h1, h2, h3⟩ | ⟨h1, h2, h3⟩
    · rw [h3]; exact r.own i b ys h2
    · cases h2
      exact ⟨p, vs, h3, hg, hh, h, (fun q => by cases q), fun _ => h0⟩
  · rcases old e1 with ⟨h1, h2, h3⟩ | ⟨h1, h2, h3⟩ <;> rcases old e2 with ⟨k1, k2, k3⟩ | ⟨k1, k2, k3⟩
    · rw [h3] at e3; rw [k3] at e4
      exact r.sep i j a b1 x1 b2 x2 h2 k2 e3 e4
    · rw [h3] at e3; rw [k3] at e4
      cases e4
      exact absurd e3 (ap i _ _ h2)
    · rw [h3] at e3; rw [k3] at e4
      cases e3
      exact absurd e4 (ap j _ _ k2)
    · omega
theorem sem_ret (h1 : SemD K te fd) : SemS K (tRet te) (sRet fd) := fun F S σ H G out r e D h => by
  obtain ⟨⟨o, S1⟩, e1, e2⟩ := Option.map_eq_some_iff.mp e
  cases e2
  exact h1 F S σ H G o S1 r e1 _ fun v H1 G1 r1 g1 h2 => h v σ H1 G1 (r1.pushD h2) g1
def sRetL (fl : LS) : SSem := fun S => (fl S).map fun p => .rt (.own false p.1) p.2
theorem sem_retL (h1 : SemL K te fl) : SemS K (tRet te) (sRetL fl) := fun F S σ H G out r e D h => by
  obtain ⟨⟨o, S1⟩, e1, e2⟩ := Option.map_eq_some_iff.mp e
  cases e2
  exact h1 F S σ H G o S1 r e1 _ fun p vs H1 G1 r1 g1 h0 hg ap hh h2 => h _ σ H1 G1 (r1.pushO h0 hg ap hh h2) g1
/-- return x, x a slot's own list: it goes to the caller -/
def retS (S : List SD) (i : Nat) : Option SD → Option Out
  | some (.own false xs) => some (.rt (.own false xs) (S.set i .un))
  | some (.d x) => some (.rt (.d x) S)
  | _ => none
def sRetV (i : Nat) : SSem := fun S => retS S i (S[i]?)
theorem sem_retV {i : Nat} : SemS K (tRet (tVar i)) (sRetV i) := fun F S σ H G out r e D h => by
  have e : retS S i (S[i]?) = some out := e
  cases q : S[i]? with
  | none => rw [q] at e; cases e
  | some sd =>
    rw [q] at e
    cases sd with
    | un => cases e
    | d x =>
      cases e
      obtain ⟨v, h1, h2⟩ := r.dat i x q
      exact ⟨v, h1, h v σ H G (r.pushD h2) (.refl _)⟩
    | own b xs =>
      cases b with
      | true => cases e
      | false =>
        cases e
        obtain ⟨a, vs, p1, p2, p3, p4, _, p6⟩ := r.own i _ _ q
        have hi : i < S.length := (List.getElem?_eq_some_iff.mp q).1
        have r2 : SR K F (S.set i .un) σ H G := by
          have := r.forget i (σ[i]'(by rw [r.len]; exact hi))
          rwa [List.set_getElem_self] at this
        have ap : Apart (S.set i .un) σ a := fun j b ys z1 z2 => by
          by_cases hj : i = j
          · subst hj
            rw [List.getElem?_set_self hi] at z1; cases z1
          · rw [List.getElem?_set_ne hj] at z1
            exact hj (r.sep i j a _ _ _ _ q z1 p1 z2)
        exact ⟨_, p1, h _ σ H G (r2.pushO (p6 rfl) p2 ap p3 p4) (.refl _)⟩
def sRetN : SSem := fun S => some (.rt (.d .none) S)
theorem sem_retN : SemS K tRetN sRetN := fun F S σ H G out r e D h => by
  cases e
  exact h .non σ H G (r.pushD .non) (.refl _)
def sAsg (fd : DS) (gs : GS) : SSem := fun S => (fd S).bind fun p => (gs p.1 p.2).map fun S1 => .nx S1
theorem sem_asg (h1 : SemD K te fd) (h2 : SemG K g ix gs) : SemS K (tAsg te g) (sAsg fd gs) := fun F S σ H G out r e D h => by
  obtain ⟨⟨x, S1⟩, e1, e⟩ := Option.bind_eq_some_iff.mp e
  obtain ⟨S2, e2, e3⟩ := Option.map_eq_some_iff.mp e
  cases e3
  exact h1 F S σ H G x S1 r e1 _ fun v H1 G1 r1 g1 hv => h2 F S1 σ H1 G1 v x S2 r1 hv e2 _ fun σ2 H2 G2 r2 g2 _ => h σ2 H2 G2 r2 (g1.trans g2)
def sAsgL (fl : LS) (i : Nat) : SSem := fun S => (fl S).map fun p => .nx (p.2.set i (.own false p.1))
theorem sem_asgL {i : Nat} (h1 : SemL K te fl) : SemS K (tAsg te (gName i)) (sAsgL fl i) := fun F S σ H G out r e D h => by
  obtain ⟨⟨xs, S1⟩, e1, e3⟩ := Option.map_eq_some_iff.mp e
  cases e3
  exact h1 F S σ H G xs S1 r e1 _ fun p vs H1 G1 r1 g1 h0 hg ap hh h2 => h _ H1 G1 (r1.setO i hg hh h2 h0 ap) g1
theorem sem_ifS (hc : SemB K tt ft) (h1 : SemS K t f) (h2 : SemS K u f') : SemS K (tIfS tt t u) (sIf ft f f') := fun F S σ H G out r e D h => by
  obtain ⟨⟨c, S1⟩, e1, e⟩ := Option.bind_eq_some_iff.mp e
  refine hc F S σ H G c S1 r e1 _ fun H1 G1 r1 g1 => ?_
  cases c with
  | true => exact h1 F S1 σ H1 G1 out r1 e D (h.mono g1)
  | false => exact h2 F S1 σ H1 G1 out r1 e D (h.mono g1)
/-! loops -/
def forGo (gs : GS) (fb : SSem) : List PyData → SSem
  | [], S => some (.nx S)
  | x :: xs, S => (gs x S).bind fun S1 => (fb S1).bind fun o => match o with
    | .nx S2 => forGo gs fb xs S2
    | .ct S2 => forGo gs fb xs S2
    | .bk S2 => some (.nx S2)
    | .rt r S2 => some (.rt r S2)
def sFor (fi : LS) (gs : GS) (fb : SSem) : SSem := fun S => (fi S).bind fun p => forGo gs fb p.1 p.2
theorem sem_for (hi : SemI K wi fi) (hg : SemG K g ix gs) (hb : SemS K tb fb) : SemS K (tFor wi g tb) (sFor fi gs fb) := fun F S σ H G out r e D h => by
  obtain ⟨⟨xs, S1⟩, e1, e2⟩ := Option.bind_eq_some_iff.mp e
  refine hi F S σ H G xs S1 r e1 _ fun J H1 G1 r1 g1 wk => ?_
  refine ⟨fun i m σ' H' => i + m = xs.length ∧ ∃ S' G', SR K F S' σ' H' G' ∧ Ex G1 G' ∧ forGo gs fb (xs.drop i) S' = some out, ⟨xs.length, by omega, S1, G1, r1, .refl _, by simpa using e2⟩, fun i m σ' H' ⟨hm, S', G', r', x', ef⟩ => ?_⟩
  obtain ⟨w1, w2⟩ := wk G' H' x' r'.gh i
  by_cases hi : i < xs.length
  · obtain ⟨go, yl⟩ := w1 hi
    have ed : xs.drop i = xs[i] :: xs.drop (i + 1) := List.drop_eq_getElem_cons hi
    rw [ed] at ef
    obtain ⟨S2, q1, ef⟩ := Option.bind_eq_some_iff.mp ef
    obtain ⟨o, q2, ef⟩ := Option.bind_eq_some_iff.mp ef
    refine .inr ⟨go, fun σ2 H2 => ∃ S3 G3, SR K F S3 σ2 H2 G3 ∧ Ex G1 G3 ∧ forGo gs fb (xs.drop (i + 1)) S3 = some out, fun σ2 H2 ⟨S3, G3, r3, x3, e3⟩ => ⟨m - 1, by omega, by omega, S3, G3, r3, x3, e3⟩, fun v H2 hy => ?_⟩
    obtain ⟨G2, x, hx, px, hr⟩ := yl v H2 hy
    rw [List.getElem?_eq_getElem hi] at hx
    cases hx
    refine hg F S' σ' H2 G2 v _ S2 (r'.ext px) hr q1 _ fun σ3 H3 G3 r3 g3 _ => ?_
    have x3 : Ex G1 G3 := (x'.trans px.gg).trans g3
    refine hb F S2 σ3 H3 G3 o r3 q2 _ ?_
    cases o with
    | nx S4 => exact fun σ4 H4 G4 r4 g4 => ⟨S4, G4, r4, x3.trans g4, ef⟩
    | ct S4 => exact fun σ4 H4 G4 r4 g4 => ⟨S4, G4, r4, x3.trans g4, ef⟩
    | bk S4 => cases ef; exact fun σ4 H4 G4 r4 g4 => h σ4 H4 G4 r4 ((g1.trans x3).trans g4)
    | rt rv S4 => cases ef; exact fun v4 σ4 H4 G4 r4 g4 => h v4 σ4 H4 G4 r4 ((g1.trans x3).trans g4)
  · refine .inl ⟨w2 (by omega), ?_⟩
    rw [List.drop_eq_nil_of_le (by omega)] at ef
    cases ef
    exact h σ' H' G' r' (g1.trans x')
def whileGo (ft : BS) (fb : SSem) : Nat → SSem
  | 0, _ => none
  | n + 1, S => (ft S).bind fun p => if p.1 = true then (fb p.2).bind fun o => match o with
    | .nx S2 => whileGo ft fb n S2
    | .ct S2 => whileGo ft fb n S2
    | .bk S2 => some (.nx S2)
    | .rt r S2 => some (.rt r S2) else some (.nx p.2)
def sWhile (n : Nat) (ft : BS) (fb : SSem) : SSem := fun S => whileGo ft fb n S
theorem sem_while {n : Nat} (ht : SemB K tt ft) (hb : SemS K tb fb) : SemS K (tWhile tt tb) (sWhile n ft fb) := fun F S σ H G out r e D h => by
  refine ⟨fun m σ' H' => ∃ S' G', SR K F S' σ' H' G' ∧ Ex G G' ∧ whileGo ft fb m S' = some out, ⟨n, S, G, r, .refl _, e⟩, fun m σ' H' ⟨S', G', r', x', ef⟩ => ?_⟩
  cases m with
  | zero => cases ef
  | succ m =>
    obtain ⟨⟨c, S1⟩, e1, ef⟩ := Option.bind_eq_some_iff.mp ef
    refine ht F S' σ' H' G' c S1 r' e1 _ fun H1 G1 r1 g1 => ?_
    cases c with
    | false => cases ef; exact h σ' H1 G1 r1 (x'.trans g1)
    | true =>
      have ef : ((fb S1).bind fun o => match o with
        | .nx S2 => whileGo ft fb m S2
        | .ct S2 => whileGo ft fb m S2
        | .bk S2 => some (.nx S2)
        | .rt r S2 => some (.rt r S2)) = some out := ef
      obtain ⟨o, q2, ef⟩ := Option.bind_eq_some_iff.mp ef
      refine ⟨fun σ2 H2 => ∃ S3 G3, SR K F S3 σ2 H2 G3 ∧ Ex G G3 ∧ whileGo ft fb m S3 = some out, fun σ2 H2 ⟨S3, G3, r3, x3, e3⟩ => ⟨m, by omega, S3, G3, r3, x3, e3⟩, ?_⟩
      refine hb F S1 σ' H1 G1 o r1 q2 _ ?_
      cases o with
      | nx S4 => exact fun σ4 H4 G4 r4 g4 => ⟨S4, G4, r4, (x'.trans g1).trans g4, ef⟩
      | ct S4 => exact fun σ4 H4 G4 r4 g4 => ⟨S4, G4, r4, (x'.trans g1).trans g4, ef⟩
      | bk S4 => cases ef; exact fun σ4 H4 G4 r4 g4 => h σ4 H4 G4 r4 ((x'.trans g1).trans g4)
      | rt rv S4 => cases ef; exact fun v4 σ4 H4 G4 r4 g4 => h v4 σ4 H4 G4 r4 ((x'.trans g1).trans g4)
end

/-! ### comprehensions -/
def sYes : BS := fun S => some (true, S)
theorem sem_yes {K : PySem.W.Frag} : SemB K tYes sYes := fun F S σ H G b S' r e Q k => by cases e; exact k H G r (.refl _)
def lcGo (vs : List Nat) (gs : GS) (fc : BS) (fd : DS) : List PyData → List SD → Option (List PyData × List SD)
  | [], S => some ([], S)
  | x :: xs, S => (gs x (borGo vs 0 S)).bind fun S1 => (fc S1).bind fun p => if p.1 = true then (fd p.2).bind fun q => (lcGo vs gs fc fd xs (unbGo vs 0 S q.2)).map fun z => (q.1 :: z.1, z.2) else lcGo vs gs fc fd xs (unbGo vs 0 S p.2)
def sLC (vs : List Nat) (fi : LS) (gs : GS) (fc : BS) (fd : DS) : LS := fun S => (fi S).bind fun p => if p.1.length < 100000 then lcGo vs gs fc fd p.1 p.2 else none
theorem sem_lc {K : PySem.W.Frag} {wi : TI} {g : TG} {tt : TT} {te : TE} {vs ix : List Nat} {fi : LS} {gs : GS} {fc : BS} {fd : DS} (hi : SemI K wi fi) (hg : SemG K g ix gs) (hix : ∀ i ∈ ix, i ∈ vs) (ht : SemB K tt fc) (he : SemD K te fd) : SemL K (tLc wi g tt te vs) (sLC vs fi gs fc fd) := by
  intro F S σ H G out S' r e Q k
  obtain ⟨⟨xs, S1⟩, e1, e2⟩ := Option.bind_eq_some_iff.mp e
  have e2 : (if xs.length < 100000 then lcGo vs gs fc fd xs S1 else none) = some (out, S') := e2
  split at e2
  · rename_i hlen
    refine hi F S σ H G xs S1 r e1 _ fun J H1 G1 r1 g1 wk D hD => ?_
    obtain ⟨f0, fg, fa⟩ := r1.fresh hD
    refine ⟨fun i m H' => i + m = xs.length ∧ ∃ T G' accV acc rest, SR K F T σ H' G' ∧ Ex G1 G' ∧ Apart T σ D ∧ G' D = none ∧ H' D = some (.lst accV) ∧ RpAll K G' accV acc ∧ acc.length ≤ i ∧ lcGo vs gs fc fd (xs.drop i) T = some (rest, S') ∧ acc ++ rest = out,
      ⟨xs.length, by omega, S1, G1, [], [], out, r1.ext (PX.side r1.gh hD), .refl _, fa, fg, upd_same, .nil, by simp, by simpa using e2, rfl⟩, fun i m H' ⟨hm, T, G', accV, acc, rest, r', x', ap, gD, hh, ha, hl, ef, eo⟩ => ?_⟩
    obtain ⟨w1, w2⟩ := wk G' H' x' r'.gh i
    by_cases hi : i < xs.length
    · obtain ⟨go, yl⟩ := w1 hi
      have ed : xs.drop i = xs[i] :: xs.drop (i + 1) := List.drop_eq_getElem_cons hi
      rw [ed] at ef
      obtain ⟨S2, q1, ef⟩ := Option.bind_eq_some_iff.mp ef
      obtain ⟨⟨c, S3⟩, q2, ef⟩ := Option.bind_eq_some_iff.mp ef
      refine .inr ⟨go, fun H2 => ∃ T G' accV acc rest, SR K F T σ H2 G' ∧ Ex G1 G' ∧ Apart T σ D ∧ G' D = none ∧ H2 D = some (.lst accV) ∧ RpAll K G' accV acc ∧ acc.length ≤ i + 1 ∧ lcGo vs gs fc fd (xs.drop (i + 1)) T = some (rest, S') ∧ acc ++ rest = out,
        fun H2 hN => ⟨m - 1, by omega, by omega, hN⟩, fun v H2 hy => ?_⟩
      obtain ⟨G2, x, hx, px, hr⟩ := yl v H2 hy
      rw [List.getElem?_eq_getElem hi] at hx
      cases hx
      have r2 : SR K F T σ H2 G2 := r'.ext px
      have gD2 : G2 D = none := by
        cases z : G2 D with
        | none => rfl
        | some u =>
          rcases px.new D (by rw [z]; simp) with q | q
          · exact absurd gD q
          · rw [hh] at q; cases q
      have hh2 : H2 D = some (.lst accV) := px.hh D _ hh
      refine hg (Fr.blk vs T σ H2 G2) (borGo vs 0 T) (wipe σ vs) H2 G2 v _ S2 (r2.sub vs) hr q1 _ fun σ3 H3 G3 r3 g3 b3 => ⟨?_, ?_⟩
      · have b4 := b3.mono hix
        exact (wipe_ext (fun i hi => ((Bt.wiped.trans b4).2 i hi)) (Bt.wiped.trans b4).1).symm
      · refine ht _ S2 σ3 H3 G3 c S3 r3 q2 _ fun H4 G4 r4 g4 => ?_
        cases c with
        | true =>
          have ef : ((fd S3).bind fun q => (lcGo vs gs fc fd (xs.drop (i + 1)) (unbGo vs 0 T q.2)).map fun z => (q.1 :: z.1, z.2)) = some (rest, S') := ef
          obtain ⟨⟨y, S4⟩, q3, ef⟩ := Option.bind_eq_some_iff.mp ef
          obtain ⟨⟨rest', S5⟩, q4, q5⟩ := Option.map_eq_some_iff.mp ef
          cases q5
          show te σ3 H4 _
          refine he _ S3 σ3 H4 G4 y S4 r4 q3 _ fun w H5 G5 r5 g5 hy5 => ?_
          obtain ⟨hD5, gD5⟩ := r2.aside r5 hh2 gD2 ap
          have x5 : Ex G1 G5 := ((x'.trans px.gg).trans g3).trans (g4.trans g5)
          have x25 : Ex G' G5 := (px.gg.trans g3).trans (g4.trans g5)
          refine ⟨accV, hD5, szl (by rw [ha.length]; omega), unbGo vs 0 T S4, G5, accV ++ [w], acc ++ [y], rest', (r2.unsub r5).side f0 gD5 (apart_unb ap), x5, apart_unb ap, gD5, upd_same, (ha.mono x25).append (.cons hy5 .nil), by simp; omega, q4, by rw [← eo]; simp⟩
        | false =>
          have ef : lcGo vs gs fc fd (xs.drop (i + 1)) (unbGo vs 0 T S3) = some (rest, S') := ef
          show ∃ T G' accV acc rest, _
          obtain ⟨hD5, gD5⟩ := r2.aside r4 hh2 gD2 ap
          have x5 : Ex G1 G4 := ((x'.trans px.gg).trans g3).trans g4
          have x25 : Ex G' G4 := (px.gg.trans g3).trans g4
          exact ⟨unbGo vs 0 T S3, G4, accV, acc, rest, r2.unsub r4, x5, apart_unb ap, gD5, hD5, ha.mono x25, by omega, ef, eo⟩
    · refine .inl ⟨w2 (by omega), ?_⟩
      rw [List.drop_eq_nil_of_le (by omega)] at ef
      cases ef
      rw [List.append_nil] at eo
      subst eo
      exact k D accV H' G' r' (g1.trans x') f0 gD ap hh ha
  · cases e2
end DL

set_option Elab.async false
set_option linter.all false
set_option maxRecDepth 100000
set_option maxHeartbeats 4000000
/-! DL, part 4: defs and their calls, the law's end. -/
namespace DL
open PySem PySem.Spec PyProof.Rows L2

/-- a def, as a function on slots: what it hands back, what has become of the lists that were lent -/
abbrev Fn := List SD → Option (SD × List SD)
def spM (K : PySem.W.Frag) (n : Nat) (m : Fn) : Sp := fun vs H Q _ => ∃ (Dl : List SD) (G : Hp) (r : SD) (Dl' : List SD), vs.length = n ∧ SR K ⟨H, G, Dl, vs.map some⟩ Dl (vs.map some) H G ∧ m Dl = some (r, Dl') ∧
  ∀ v H' G', SR K ⟨H, G, Dl, vs.map some⟩ (Dl' ++ [r]) (vs.map some ++ [some v]) H' G' → Q v H'
structure FnG (P : Program) (w : World) (K : PySem.W.Frag) (mg : Str → Option Value) (base : Heap) (k : Nat) (f : Addr) (fd : FuncData) (ps : List Str) (m : Fn) : Prop where
  run : ∀ (A : Around) (outer : List Env) (s : Shared) (H : Hp) (args : Args) (us : List Value) (vs : List V) (Q : VK), Room k A → A.guards = some [] → Env0 P w K mg base A outer s H → BindsTo s fd args (ps.zip us) → Vals vs us →
    spM K ps.length m vs H Q E0 → codeAny (model P w) A (.call (.ref f) args) (CR CX0 outer P w H s Q E0) s
theorem FnG.mono {P : Program} {w : World} {K : PySem.W.Frag} {mg : Str → Option Value} {base : Heap} {j k : Nat} {f : Addr} {fd : FuncData} {ps : List Str} {m : Fn} (F : FnG P w K mg base j f fd ps m) (h : j ≤ k) : FnG P w K mg base k f fd ps m :=
  ⟨fun A outer s H args us vs Q hr => F.run A outer s H args us vs Q (hr.mono h)⟩

/-! ### a def's body -/
/-- what the borrowed lists have become -/
def fin : List SD → List SD → Option (List SD)
  | [], _ => some []
  | .own _ _ :: Dl, .own true xs :: S => (fin Dl S).map fun z => .own true xs :: z
  | .own _ _ :: _, _ => none
  | s :: Dl, _ :: S => (fin Dl S).map fun z => s :: z
  | _ :: _, [] => none
def defOut (Dl : List SD) : Out → Option (SD × List SD)
  | .nx S => (fin Dl S).map fun z => (.d .none, z)
  | .rt r S => (fin Dl S).map fun z => (r, z)
  | _ => none
/-- N: how many slots there are -/
def defn (N : Nat) (f : SSem) : Fn := fun Dl => (f (Dl ++ List.replicate (N - Dl.length) .un)).bind (defOut Dl)
theorem fin_len : ∀ {Dl S T : List SD}, fin Dl S = some T → T.length = Dl.length
  | [], _, _, h => by cases h; rfl
  | .own _ _ :: Dl, .own true xs :: S, _, h => by
    obtain ⟨z, h1, rfl⟩ := Option.map_eq_some_iff.mp h
    simp [fin_len h1]
  | .un :: Dl, _ :: S, _, h => by
    obtain ⟨z, h1, rfl⟩ := Option.map_eq_some_iff.mp h
    simp [fin_len h1]
  | .d _ :: Dl, _ :: S, _, h => by
    obtain ⟨z, h1, rfl⟩ := Option.map_eq_some_iff.mp h
    simp [fin_len h1]
theorem fin_get : ∀ {Dl S T : List SD}, fin Dl S = some T → ∀ (i : Nat) (s : SD), T[i]? = some s → (∃ xs, s = .own true xs ∧ S[i]? = some (.own true xs)) ∨ (Dl[i]? = some s ∧ ∀ b xs, s ≠ .own b xs)
  | [], _, _, h, i, s, e => by cases h; simp at e
  | .own _ _ :: Dl, .own true xs :: S, _, h, i, s, e => by
    obtain ⟨z, h1, rfl⟩ := Option.map_eq_some_iff.mp h
    cases i with
    | zero => cases e; exact .inl ⟨xs, rfl, rfl⟩
    | succ i => exact fin_get h1 i s e
  | .un :: Dl, _ :: S, _, h, i, s, e => by
    obtain ⟨z, h1, rfl⟩ := Option.map_eq_some_iff.mp h
    cases i with
    | zero => cases e; exact .inr ⟨rfl, fun _ _ q => by cases q⟩
    | succ i => exact fin_get h1 i s e
  | .d _ :: Dl, _ :: S, _, h, i, s, e => by
    obtain ⟨z, h1, rfl⟩ := Option.map_eq_some_iff.mp h
    cases i with
    | zero => cases e; exact .inr ⟨rfl, fun _ _ q => by cases q⟩
    | succ i => exact fin_get h1 i s e
theorem fin_le : ∀ {Dl S T : List SD}, fin Dl S = some T → Dl.length ≤ S.length := by
  intro Dl
  induction Dl with
  | nil => intro S T _; simp
  | cons s Dl ih =>
    intro S T h
    cases S with
    | nil => cases s <;> simp [fin] at h
    | cons s' S =>
      cases s with
      | own b xs =>
        cases s' with
        | own c ys =>
          cases c with
          | true =>
            obtain ⟨z, h1, _⟩ := Option.map_eq_some_iff.mp h
            have := ih h1
            simp; omega
          | false => simp [fin] at h
        | _ => simp [fin] at h
      | _ =>
        obtain ⟨z, h1, _⟩ := Option.map_eq_some_iff.mp h
        have := ih h1
        simp; omega
theorem SR.undef {K : PySem.W.Frag} {H G : Hp} {Dl : List SD} {vs : List V} {N : Nat} (r : SR K ⟨H, G, Dl, vs.map some⟩ Dl (vs.map some) H G) :
    SR K ⟨H, G, Dl, vs.map some⟩ (Dl ++ List.replicate (N - Dl.length) .un) (vs.map some ++ List.replicate (N - vs.length) none) H G := by
  have L : vs.length = Dl.length := by simpa using r.len
  have old : ∀ {i : Nat} {s : SD}, (Dl ++ List.replicate (N - Dl.length) .un)[i]? = some s → s = .un ∨ (Dl[i]? = some s ∧ (vs.map some ++ List.replicate (N - vs.length) none)[i]? = (vs.map some)[i]?) := fun {i s} e => by
    by_cases hi : i < Dl.length
    · rw [List.getElem?_append_left hi] at e
      exact .inr ⟨e, List.getElem?_append_left (by simpa [L] using hi)⟩
    · rw [List.getElem?_append_right (by omega), List.getElem?_replicate] at e
      split at e
      · cases e; exact .inl rfl
      · cases e
  refine ⟨by simp [L], r.g0, r.gh, r.new, r.keep, r.live, fun i x e => ?_, fun i b xs e => ?_, fun i j a b1 x1 b2 x2 e1 e2 e3 e4 => ?_⟩
  · rcases old e with q | ⟨h1, h2⟩
    · cases q
    · rw [h2]; exact r.dat i x h1
  · rcases old e with q | ⟨h1, h2⟩
    · cases q
    · rw [h2]; exact r.own i b xs h1
  · rcases old e1 with q | ⟨h1, h2⟩
    · cases q
    · rcases old e2 with q | ⟨h3, h4⟩
      · cases q
      · rw [h2] at e3; rw [h4] at e4
        exact r.sep i j a b1 x1 b2 x2 h1 h3 e3 e4
/-- at a def's end -/
theorem SR.done {K : PySem.W.Frag} {H G H' G' : Hp} {Dl S T : List SD} {vs : List V} {σ : L2.St} {r : SD} {v : V} (r0 : SR K ⟨H, G, Dl, vs.map some⟩ Dl (vs.map some) H G) (r1 : SR K ⟨H, G, Dl, vs.map some⟩ (S ++ [r]) (σ ++ [some v]) H' G') (e : fin Dl S = some T) :
    SR K ⟨H, G, Dl, vs.map some⟩ (T ++ [r]) (vs.map some ++ [some v]) H' G' := by
  have L : vs.length = Dl.length := by simpa using r0.len
  have L1 : σ.length = S.length := by simpa using r1.len
  have LT := fin_len e
  -- each told slot stands in S, or is as it was
  have old : ∀ {i : Nat} {s : SD}, (T ++ [r])[i]? = some s → (i < T.length ∧ (vs.map some ++ [some v])[i]? = (vs.map some)[i]? ∧ ((∃ xs, s = .own true xs ∧ (S ++ [r])[i]? = some (.own true xs) ∧ (σ ++ [some v])[i]? = (vs.map some)[i]?) ∨ (Dl[i]? = some s ∧ ∀ b xs, s ≠ .own b xs))) ∨
      (i = T.length ∧ s = r ∧ (vs.map some ++ [some v])[i]? = some (some v)) := fun {i s} q => by
    by_cases hi : i < T.length
    · rw [List.getElem?_append_left hi] at q
      refine .inl ⟨hi, List.getElem?_append_left (by simp; omega), ?_⟩
      rcases fin_get e i s q with ⟨xs, h1, h2⟩ | h
      · refine .inl ⟨xs, h1, ?_, ?_⟩
        · rw [List.getElem?_append_left (List.getElem?_eq_some_iff.mp h2).1]; exact h2
        · have h3 : (S ++ [r])[i]? = some (.own true xs) := by rw [List.getElem?_append_left (List.getElem?_eq_some_iff.mp h2).1]; exact h2
          obtain ⟨a, ws, p1, _, _, _, p5, _⟩ := r1.own i _ _ h3
          exact p1.trans ((p5 rfl).2).symm
      · exact .inr h
    · rw [List.getElem?_append_right (by omega)] at q
      cases z : i - T.length with
      | zero =>
        rw [z] at q; cases q
        exact .inr ⟨by omega, rfl, by rw [List.getElem?_append_right (by simp; omega)]; simp; rw [show i - vs.length = 0 by omega]; rfl⟩
      | succ n => rw [z] at q; simp at q
  have last : ∀ {s : SD}, s = r → (S ++ [r])[S.length]? = some s ∧ (σ ++ [some v])[S.length]? = some (some v) := fun {s} q => by
    subst q
    exact ⟨by simp, by rw [← L1]; simp⟩
  refine ⟨by simp; omega, r1.g0, r1.gh, r1.new, r1.keep, r1.live, fun i x q => ?_, fun i b xs q => ?_, fun i j a b1 x1 b2 x2 e1 e2 e3 e4 => ?_⟩
  · rcases old q with ⟨hi, h1, h2⟩ | ⟨hi, h1, h2⟩
    · rw [h1]
      rcases h2 with ⟨xs, z, _⟩ | ⟨h3, _⟩
      · cases z
      · obtain ⟨u, q1, q2⟩ := r0.dat i x h3
        exact ⟨u, q1, q2.mono r1.g0⟩
    · rw [h2]
      obtain ⟨h3, h4⟩ := last h1
      obtain ⟨u, q1, q2⟩ := r1.dat _ x h3
      rw [h4] at q1; cases q1
      exact ⟨v, rfl, q2⟩
  · rcases old q with ⟨hi, h1, h2⟩ | ⟨hi, h1, h2⟩
    · rw [h1]
      rcases h2 with ⟨ys, z, h3, h4⟩ | ⟨_, h3⟩
      · cases z
        obtain ⟨a, ws, p1, p2, p3, p4, p5, p6⟩ := r1.own i _ _ h3
        exact ⟨a, ws, h4.symm.trans p1, p2, p3, p4, p5, p6⟩
      · exact absurd rfl (h3 b xs)
    · rw [h2]
      obtain ⟨h3, h4⟩ := last h1
      obtain ⟨a, ws, p1, p2, p3, p4, p5, p6⟩ := r1.own _ _ _ h3
      rw [h4] at p1; cases p1
      cases b with
      | false => exact ⟨a, ws, rfl, p2, p3, p4, (fun z => by cases z), p6⟩
      | true =>
        exfalso
        have h7 := (p5 rfl).2
        have h8 : (vs.map some)[S.length]? = some (some (.ref a)) := h7
        -- the place of the result lies behind the parameters
        have h9 : S.length < vs.length := by
          have := (List.getElem?_eq_some_iff.mp h8).1
          simpa using this
        have h10 : Dl.length ≤ S.length := by
          exact fin_le e
        omega
  · have via : ∀ {i : Nat} {b : Bool} {xs : List PyData}, (T ++ [r])[i]? = some (.own b xs) → ∃ j : Nat, (S ++ [r])[j]? = some (.own b xs) ∧ (σ ++ [some v])[j]? = (vs.map some ++ [some v])[i]? ∧ (i < T.length → j = i) ∧ (i = T.length → j = S.length) := fun {i b xs} q => by
      rcases old q with ⟨hi, h1, h2⟩ | ⟨hi, h1, h2⟩
      · rcases h2 with ⟨ys, z, h3, h4⟩ | ⟨_, h3⟩
        · cases z
          exact ⟨i, h3, h4.trans h1.symm, fun _ => rfl, fun q => by omega⟩
        · exact absurd rfl (h3 b xs)
      · obtain ⟨h3, h4⟩ := last h1
        exact ⟨S.length, h3, h4.trans h2.symm, fun q => by omega, fun _ => rfl⟩
    obtain ⟨i', p1, p2, p3, p4⟩ := via e1
    obtain ⟨j', q1, q2, q3, q4⟩ := via e2
    have ee := r1.sep i' j' a _ _ _ _ p1 q1 (p2.trans e3) (q2.trans e4)
    have li : i < T.length ∨ i = T.length := by
      have := (List.getElem?_eq_some_iff.mp e1).1
      simp at this; omega
    have lj : j < T.length ∨ j = T.length := by
      have := (List.getElem?_eq_some_iff.mp e2).1
      simp at this; omega
    rcases li with a1 | a1 <;> rcases lj with b1 | b1
    · have := p3 a1; have := q3 b1; omega
    · have h1 := p3 a1
      have h2 := q4 b1
      have h3 := fin_le e
      omega
    · have h1 := p4 a1
      have h2 := q3 b1
      have h3 := fin_le e
      omega
    · omega

section
variable {P : Program} {w : World} {K : PySem.W.Frag} {mg : Str → Option Value} {base : Heap}
/-- the context of a def's body -/
abbrev cxG (P : Program) (w : World) (K : PySem.W.Frag) (mg : Str → Option Value) (base : Heap) (N : List Str) (qual : Str) (scope : Scope) (f : Addr) (cd : Value) (A : Around) (outer : List Env) (s : Shared) (H : Hp) : Cx := (cxOf CX0 P w K mg base N qual scope f cd A outer s H E0).nox
theorem fnG_of {x qual : Str} {st : Stmt} {f : Addr} {fd : FuncData} {N ps : List Str} {k n : Nat} {fs : SSem} (F : Fun K x qual st f fd) (S : FnScope N ps (defScope st)) (hn : N.length = n)
    (hbody : ∀ (cdv : Value) (A : Around) (outer : List Env) (s : Shared) (H : Hp), Room k (cxG P w K mg base N qual (defScope st) f cdv A outer s H).A → (cxG P w K mg base N qual (defScope st) f cdv A outer s H).A.guards = some [] →
      ∃ t, SSs (cxG P w K mg base N qual (defScope st) f cdv A outer s H) K (defBody st) t fs) : FnG P w K mg base (k + 1) f fd ps (defn n fs) := by
  subst hn
  obtain ⟨oc, od, kV, doc, pm, an, cdv, ct, osl, rfl, lk, hcd⟩ := F.ex
  constructor
  intro A outer s H args us vs Q hr hgd e0 hb rv hsp
  obtain ⟨Dl, G, r, Dl', hl, r0, em, q⟩ := hsp
  have KX : K.In s.heap := e0.mod.kin.keeps fun b o e => (e0.bs b o e).1
  have lim : s.heap.NoLimit := e0.mod.nolimit.keeps fun b o e => (e0.bs b o e).1
  have par : ∀ y ∈ ps.zip us, (defScope st).names.lookup y.1 = some .local ∨ ((defScope st).names.lookup y.1 = some .cell ∧ ((cellsFrom (s.heap.objs.size + 1) (defScope st).names []).lookup y.1).isSome = true) := by
    intro y hy
    rcases S.par y.1 (List.of_mem_zip (show (y.1, y.2) ∈ ps.zip us from hy)).1 with z | z
    · exact .inl z
    · exact .inr ⟨z, PySem.W.cellsFrom_some _ _ _ (.inl z)⟩
  refine codeAny_call_function hr.depth (KX _ _ lk) rfl S.co S.gen rfl (PySem.W.codeRec_of KX hcd) (hb _ _ _ _ ?_)
  refine wpAny_newFunctionEnv_cells S.kind par fun env he s1 x => ?_
  subst he
  refine ⟨lim.keeps x.toInCall.keep, codeAny_func ?_⟩
  obtain ⟨t, ht⟩ := hbody cdv A outer s H (hr.deeper _) hgd
  have I := inv_start (CX := CX0) (E := E0) S hr.hd e0 hl rv x
  obtain ⟨out, e1, e2⟩ := Option.bind_eq_some_iff.mp em
  have L : vs.length = Dl.length := by simpa using r0.len
  have rr := r0.undef (N := N.length)
  have hN : vs.length ≤ N.length := by
    have h1 := S.pre
    have h2 : (N.take ps.length).length = ps.length := by rw [h1]
    rw [List.length_take] at h2
    omega
  have read : t { nx := fun _ H' => Q .non H', rt := Q } (start N vs) H := by
    refine ht.ok _ _ _ H G out rr e1 _ ?_
    cases out with
    | nx S1 =>
      obtain ⟨T, h1, h2⟩ := Option.map_eq_some_iff.mp e2
      cases h2
      exact fun σ' H' G' r1 _ => q .non H' G' (r0.done (r1.pushD .non) h1)
    | rt r' S1 =>
      obtain ⟨T, h1, h2⟩ := Option.map_eq_some_iff.mp e2
      cases h2
      exact fun v σ' H' G' r1 _ => q v H' G' (r0.done r1 h1)
    | bk S1 => cases e2
    | ct S1 => cases e2
  refine wpAny_mono (ht.p.run [] s1 (start N vs) H _ (I.wish _) read) (fun fl s' hs => ?_) fun e s' hs => hs.elim
  have hs := SP.unwish hs
  have end_ : ∀ {σ' : L2.St} {H' : Hp} {v : V} {u : Value}, Inv (cxOf CX0 P w K mg base N qual (defScope st) f cdv A outer s H E0) [] σ' H' s' → RelV v u → Q v H' → CE outer P w H s Q u s' :=
    fun {σ' H' v u} J ru qv => ⟨v, H', J.os, J.bare, J.base, J.hok, ru, qv⟩
  cases fl with
  | ret u => obtain ⟨v, σ', H', J, ru, qv⟩ := hs; exact end_ J ru qv
  | next => obtain ⟨σ', H', J, qv⟩ := hs; exact end_ (v := V.non) (u := Value.none) J rfl qv
  | brk => obtain ⟨_, _, _, qv⟩ := hs; exact qv.elim
  | cont => obtain ⟨_, _, _, qv⟩ := hs; exact qv.elim
end

/-! ### calls -/
def opSD (S : List SD) : Op → Option SD
  | .dat x => some (.d x)
  | .slot i => (S[i]?).bind fun s => match s with
    | .un => none
    | s => some (bor s)
def opSDs (S : List SD) : List Op → Option (List SD)
  | [] => some []
  | o :: os => (opSD S o).bind fun s => (opSDs S os).map fun ss => s :: ss
def isOwn : Option SD → Bool
  | some (.own _ _) => true
  | _ => false
/-- the slots whose own lists are lent -/
def ownIx (S : List SD) : List Op → List Nat
  | [] => []
  | .slot i :: os => if isOwn (S[i]?) = true then i :: ownIx S os else ownIx S os
  | .dat _ :: os => ownIx S os
def isSlot (j : Nat) : Op → Bool
  | .slot i => i == j
  | .dat _ => false
def findArg (j : Nat) : List Op → List SD → Option SD
  | [], _ => none
  | o :: os, rs => if isSlot j o = true then some (rs.headD .un) else findArg j os rs.tail
def wb1 : Option SD → SD → SD
  | none, s => s
  | some r, s => unb1 s r
def wbGo (os : List Op) (rs : List SD) : Nat → List SD → List SD
  | _, [] => []
  | j, s :: S => wb1 (findArg j os rs) s :: wbGo os rs (j + 1) S
theorem wbGo_get (os : List Op) (rs : List SD) : ∀ (S : List SD) (k i : Nat), (wbGo os rs k S)[i]? = (S[i]?).map (wb1 (findArg (k + i) os rs))
  | [], _, _ => by simp [wbGo]
  | s :: S, k, 0 => by simp [wbGo]
  | s :: S, k, i + 1 => by
    have ih := wbGo_get os rs S (k + 1) i
    have e : k + 1 + i = k + (i + 1) := by omega
    rw [e] at ih
    simpa [wbGo] using ih
theorem wbGo_len (os : List Op) (rs : List SD) : ∀ (S : List SD) (k : Nat), (wbGo os rs k S).length = S.length
  | [], _ => rfl
  | s :: S, k => by simp [wbGo, wbGo_len os rs S (k + 1)]
theorem isSlot_true {j : Nat} {o : Op} (h : isSlot j o = true) : o = .slot j := by
  cases o with
  | dat x => cases h
  | slot i =>
    have h : (i == j) = true := h
    rw [beq_iff_eq] at h; rw [h]
theorem findArg_some : ∀ {os : List Op} {rs : List SD} {j : Nat} {r : SD}, findArg j os rs = some r → ∃ i : Nat, os[i]? = some (.slot j) ∧ (rs[i]? = some r ∨ r = .un)
  | o :: os, rs, j, r, h => by
    unfold findArg at h
    split at h
    · rename_i hs
      cases h
      refine ⟨0, by rw [isSlot_true hs]; rfl, ?_⟩
      cases rs with
      | nil => exact .inr rfl
      | cons r rs => exact .inl rfl
    · obtain ⟨i, h1, h2⟩ := findArg_some h
      refine ⟨i + 1, h1, h2.imp (fun q => ?_) id⟩
      cases rs with
      | nil => simp at q
      | cons r rs => exact q
theorem findArg_none : ∀ {os : List Op} {rs : List SD} {j : Nat}, findArg j os rs = none → ∀ i : Nat, os[i]? ≠ some (.slot j)
  | [], rs, j, h, i => by simp
  | o :: os, rs, j, h, i => by
    unfold findArg at h
    split at h
    · cases h
    · rename_i hs
      cases i with
      | zero =>
        intro q
        cases q
        exact hs (by show (j == j) = true; simp)
      | succ i => exact findArg_none h i
theorem ownIx_mem : ∀ {S : List SD} {os : List Op} {i j : Nat}, os[i]? = some (.slot j) → isOwn (S[j]?) = true → j ∈ ownIx S os
  | S, o :: os, 0, j, h, q => by
    cases h
    unfold ownIx
    rw [if_pos q]; simp
  | S, .slot k :: os, i + 1, j, h, q => by
    have ih := ownIx_mem (S := S) (os := os) (i := i) (j := j) h q
    unfold ownIx
    split
    · exact List.mem_cons_of_mem _ ih
    · exact ih
  | S, .dat _ :: os, i + 1, j, h, q => ownIx_mem (S := S) (os := os) (i := i) (j := j) h q
theorem ownIx_inj : ∀ {S : List SD} {os : List Op} {i i' j : Nat}, (ownIx S os).Nodup → os[i]? = some (.slot j) → os[i']? = some (.slot j) → isOwn (S[j]?) = true → i = i'
  | S, o :: os, 0, 0, j, _, _, _, _ => rfl
  | S, o :: os, 0, i' + 1, j, nd, h, h', q => by
    exfalso
    cases h
    unfold ownIx at nd
    rw [if_pos q] at nd
    exact (List.nodup_cons.mp nd).1 (ownIx_mem h' q)
  | S, o :: os, i + 1, 0, j, nd, h, h', q => by
    exfalso
    cases h'
    unfold ownIx at nd
    rw [if_pos q] at nd
    exact (List.nodup_cons.mp nd).1 (ownIx_mem h q)
  | S, .slot k :: os, i + 1, i' + 1, j, nd, h, h', q => by
    unfold ownIx at nd
    split at nd
    · rw [ownIx_inj (List.nodup_cons.mp nd).2 h h' q]
    · rw [ownIx_inj nd h h' q]
  | S, .dat _ :: os, i + 1, i' + 1, j, nd, h, h', q => by
    rw [ownIx_inj (S := S) (os := os) nd h h' q]
theorem opSDs_get : ∀ {S : List SD} {os : List Op} {Dl : List SD}, opSDs S os = some Dl → ∀ (i : Nat) (s : SD), Dl[i]? = some s → ∃ o, os[i]? = some o ∧ opSD S o = some s
  | S, [], _, h, i, s, e => by cases h; simp at e
  | S, o :: os, _, h, i, s, e => by
    unfold opSDs at h
    obtain ⟨s1, h1, h⟩ := Option.bind_eq_some_iff.mp h
    obtain ⟨ss, h2, rfl⟩ := Option.map_eq_some_iff.mp h
    cases i with
    | zero => cases e; exact ⟨o, rfl, h1⟩
    | succ i => exact opSDs_get h2 i s e
theorem opSDs_len : ∀ {S : List SD} {os : List Op} {Dl : List SD}, opSDs S os = some Dl → Dl.length = os.length
  | S, [], _, h => by cases h; rfl
  | S, o :: os, _, h => by
    unfold opSDs at h
    obtain ⟨s1, h1, h⟩ := Option.bind_eq_some_iff.mp h
    obtain ⟨ss, h2, rfl⟩ := Option.map_eq_some_iff.mp h
    simp [opSDs_len h2]
theorem OpRs.get {K : PySem.W.Frag} {G : Hp} {σ : L2.St} : ∀ {vs : List V} {os : List Op}, OpRs K G σ vs os → ∀ (i : Nat) (o : Op), os[i]? = some o → ∃ v, vs[i]? = some v ∧ OpR K G σ v o
  | _, _, .nil, i, o, e => by simp at e
  | _, _, .cons h t, 0, o, e => by cases e; exact ⟨_, rfl, h⟩
  | _, _, .cons h t, i + 1, o, e => OpRs.get t i o e
theorem OpRs.length {K : PySem.W.Frag} {G : Hp} {σ : L2.St} : ∀ {vs : List V} {os : List Op}, OpRs K G σ vs os → vs.length = os.length
  | _, _, .nil => rfl
  | _, _, .cons h t => by simp [t.length]
theorem opSD_d {S : List SD} {o : Op} {x : PyData} (h : opSD S o = some (.d x)) : o = .dat x ∨ ∃ j : Nat, o = .slot j ∧ S[j]? = some (.d x) := by
  cases o with
  | dat y => cases h; exact .inl rfl
  | slot j =>
    obtain ⟨s, h1, h2⟩ := Option.bind_eq_some_iff.mp h
    cases s with
    | un => cases h2
    | d y => cases h2; exact .inr ⟨j, rfl, h1⟩
    | own b xs => cases h2
theorem opSD_own {S : List SD} {o : Op} {b : Bool} {xs : List PyData} (h : opSD S o = some (.own b xs)) : b = true ∧ ∃ (j : Nat) (c : Bool), o = .slot j ∧ S[j]? = some (.own c xs) := by
  cases o with
  | dat y => cases h
  | slot j =>
    obtain ⟨s, h1, h2⟩ := Option.bind_eq_some_iff.mp h
    cases s with
    | un => cases h2
    | d y => cases h2
    | own c ys => cases h2; exact ⟨rfl, j, c, rfl, h1⟩
section
variable {K : PySem.W.Frag} {F : Fr} {S : List SD} {σ : L2.St} {H G H' G' : Hp} {vs : List V} {os : List Op} {Dl Dl' : List SD}
theorem SR.args (r : SR K F S σ H G) (h : OpRs K G σ vs os) (e : opSDs S os = some Dl) (nd : (ownIx S os).Nodup) : SR K ⟨H, G, Dl, vs.map some⟩ Dl (vs.map some) H G := by
  have own : ∀ (i : Nat) (b : Bool) (xs : List PyData), Dl[i]? = some (.own b xs) → ∃ (j : Nat) (c : Bool) (a : Addr) (ws : List V), b = true ∧ os[i]? = some (.slot j) ∧ S[j]? = some (.own c xs) ∧ (vs.map some)[i]? = some (some (.ref a)) ∧ σ[j]? = some (some (.ref a)) ∧ G a = none ∧ H a = some (.lst ws) ∧ RpAll K G ws xs := fun i b xs q => by
    obtain ⟨o, h1, h2⟩ := opSDs_get e i _ q
    obtain ⟨hb, j, c, rfl, h3⟩ := opSD_own h2
    obtain ⟨a, ws, p1, p2, p3, p4, _⟩ := r.own j c xs h3
    obtain ⟨v, q1, q2⟩ := h.get i _ h1
    have q2 : σ[j]? = some (some v) := q2
    rw [p1] at q2
    cases q2
    exact ⟨j, c, a, ws, hb, h1, h3, by rw [List.getElem?_map, q1]; rfl, p1, p2, p3, p4⟩
  refine ⟨by simp [h.length, opSDs_len e], .refl _, r.gh, fun b q => .inl q, fun b o q _ => q, fun b q => q, fun i x q => ?_, fun i b xs q => ?_, fun i j a b1 x1 b2 x2 e1 e2 e3 e4 => ?_⟩
  · obtain ⟨o, h1, h2⟩ := opSDs_get e i _ q
    obtain ⟨v, q1, q2⟩ := h.get i _ h1
    refine ⟨v, by rw [List.getElem?_map, q1]; rfl, ?_⟩
    rcases opSD_d h2 with rfl | ⟨j, rfl, h3⟩
    · exact q2
    · obtain ⟨u, p1, p2⟩ := r.dat j x h3
      have q2 : σ[j]? = some (some v) := q2
      rw [p1] at q2
      cases q2
      exact p2
  · obtain ⟨j, c, a, ws, hb, h1, h2, h3, h4, h5, h6, h7⟩ := own i b xs q
    refine ⟨a, ws, h3, h5, h6, h7, fun _ => ⟨⟨i, b, xs, q, h3⟩, h3⟩, fun z => ?_⟩
    rw [hb] at z; cases z
  · obtain ⟨k, c, a', ws, hb, h1, h2, h3, h4, _⟩ := own i b1 x1 e1
    obtain ⟨k', c', a2, ws', hb', h1', h2', h3', h4', _⟩ := own j b2 x2 e2
    rw [h3] at e3; cases e3
    rw [h3'] at e4; cases e4
    have ek := r.sep k k' a _ _ _ _ h2 h2' h4 h4'
    subst ek
    exact ownIx_inj nd h1 h1' (by rw [h2]; rfl)
/-- what a call hands back -/
def ResR (K : PySem.W.Frag) (F : Fr) (S : List SD) (σ : L2.St) (H G : Hp) (v : V) : SD → Prop
  | .d x => Rp K G v x
  | .own false xs => ∃ p vs, v = .ref p ∧ F.H0 p = none ∧ G p = none ∧ Apart S σ p ∧ H p = some (.lst vs) ∧ RpAll K G vs xs
  | _ => True
theorem SR.called (r : SR K F S σ H G) (h : OpRs K G σ vs os) (e : opSDs S os = some Dl) {rs : SD} {v : V} (r' : SR K ⟨H, G, Dl, vs.map some⟩ (Dl' ++ [rs]) (vs.map some ++ [some v]) H' G') :
    SR K F (wbGo os Dl' 0 S) σ H' G' ∧ ResR K F (wbGo os Dl' 0 S) σ H' G' v rs := by
  have L : (vs.map some).length = Dl'.length := by simpa using r'.len
  have T : SR K F (wbGo os Dl' 0 S) σ H' G' := by
    refine r.back r' rfl rfl (fun a hb => ?_) (wbGo_len _ _ _ _) (fun j x q => ?_) fun j b xs q => ?_
    · obtain ⟨i, b, xs, h1, h2⟩ := hb
      obtain ⟨o, h3, h4⟩ := opSDs_get e i _ h1
      obtain ⟨_, j, c, rfl, h5⟩ := opSD_own h4
      obtain ⟨u, q1, q2⟩ := h.get i _ h3
      have h2 : (vs.map some)[i]? = some (some (.ref a)) := h2
      rw [List.getElem?_map, q1] at h2
      cases h2
      exact ⟨j, c, xs, h5, q2⟩
    · rw [wbGo_get] at q
      obtain ⟨s, h1, h2⟩ := Option.map_eq_some_iff.mp q
      cases z : findArg (0 + j) os Dl' with
      | none => rw [z] at h2; have h2 : s = .d x := h2; rw [h1, h2]
      | some r0 =>
        rw [z] at h2
        have h2 : unb1 s r0 = .d x := h2
        cases s with
        | own b xs => cases r0 with
          | own c ys => cases c <;> cases h2
          | _ => cases h2
        | _ => rw [h1]; exact congrArg some h2
    · rw [wbGo_get, Nat.zero_add] at q
      obtain ⟨s, h1, h2⟩ := Option.map_eq_some_iff.mp q
      cases z : findArg j os Dl' with
      | none =>
        rw [z] at h2
        have h2 : s = .own b xs := h2
        subst h2
        obtain ⟨a, ws, p1, _⟩ := r.own j b xs h1
        refine ⟨⟨_, h1⟩, a, p1, .inr ⟨h1, fun hb => ?_⟩⟩
        obtain ⟨i, b', xs', q1, q2⟩ := hb
        obtain ⟨o, h3, h4⟩ := opSDs_get e i _ q1
        obtain ⟨_, j', c, rfl, h5⟩ := opSD_own h4
        obtain ⟨u, t1, t2⟩ := h.get i _ h3
        have q2 : (vs.map some)[i]? = some (some (.ref a)) := q2
        rw [List.getElem?_map, t1] at q2
        cases q2
        have ej := r.sep j j' a _ _ _ _ h1 h5 p1 t2
        subst ej
        exact findArg_none z i h3
      | some r0 =>
        rw [z] at h2
        have h2 : unb1 s r0 = .own b xs := h2
        cases s with
        | own b0 ys => cases r0 with
          | own c zs => cases c with
            | true =>
              cases h2
              obtain ⟨a, ws, p1, _⟩ := r.own j _ ys h1
              refine ⟨⟨_, h1⟩, a, p1, .inl ?_⟩
              obtain ⟨i, h3, h4⟩ := findArg_some z
              rcases h4 with h4 | h4
              · have hi : i < Dl'.length := (List.getElem?_eq_some_iff.mp h4).1
                obtain ⟨u, t1, t2⟩ := h.get i _ h3
                have t2 : σ[j]? = some (some u) := t2
                rw [p1] at t2
                cases t2
                exact ⟨i, by rw [List.getElem?_append_left hi]; exact h4, by show (vs.map some)[i]? = _; rw [List.getElem?_map, t1]; rfl⟩
              · cases h4
            | false => cases h2
          | _ => cases h2
        | un => cases h2
        | d x => cases h2
  refine ⟨T, ?_⟩
  have last : (Dl' ++ [rs])[Dl'.length]? = some rs := by simp
  have lastv : (vs.map some ++ [some v])[Dl'.length]? = some (some v) := by rw [← L]; simp
  cases rs with
  | un => trivial
  | d x =>
    obtain ⟨u, p1, p2⟩ := r'.dat _ x last
    rw [lastv] at p1; cases p1
    exact p2
  | own b xs =>
    cases b with
    | true => trivial
    | false =>
      obtain ⟨a, ws, p1, p2, p3, p4, _, p6⟩ := r'.own _ _ xs last
      rw [lastv] at p1; cases p1
      have ha : H a = none := p6 rfl
      obtain ⟨f0, _, fa⟩ := r.fresh ha
      refine ⟨a, ws, rfl, f0, p2, fun i b ys z1 z2 => ?_, p3, p4⟩
      rw [wbGo_get] at z1
      obtain ⟨s, h1, h2⟩ := Option.map_eq_some_iff.mp z1
      have : ∃ (c : Bool) (zs : List PyData), s = .own c zs := by
        cases zz : findArg (0 + i) os Dl' with
        | none => rw [zz] at h2; exact ⟨b, ys, h2⟩
        | some r0 =>
          rw [zz] at h2
          have h2 : unb1 s r0 = .own b ys := h2
          cases s with
          | own c zs => exact ⟨c, zs, rfl⟩
          | un => cases h2
          | d x => cases h2
      obtain ⟨c, zs, rfl⟩ := this
      exact fa i c zs h1 z2
end
/-- the written values in the parameters' order -/
def perm {α : Type} (pm : List Nat) (xs : List α) : List α := pm.filterMap fun i => xs[i]?
theorem perm_rel {K : PySem.W.Frag} {G : Hp} {σ : L2.St} {vs : List V} {os : List Op} (h : OpRs K G σ vs os) : ∀ pm : List Nat, OpRs K G σ (perm pm vs) (perm pm os)
  | [] => .nil
  | i :: pm => by
    unfold perm
    rw [List.filterMap_cons, List.filterMap_cons]
    cases q : os[i]? with
    | none =>
      have : vs[i]? = none := by
        rw [List.getElem?_eq_none_iff] at q ⊢
        rw [h.length]; exact q
      rw [this]
      exact perm_rel h pm
    | some o =>
      obtain ⟨v, h1, h2⟩ := h.get i o q
      rw [h1]
      exact .cons h2 (perm_rel h pm)
theorem perm_vals {vs : List V} {us : List Value} (h : Vals vs us) : ∀ pm : List Nat, Vals (perm pm vs) (perm pm us)
  | [] => .nil
  | i :: pm => by
    unfold perm
    rw [List.filterMap_cons, List.filterMap_cons]
    cases q : vs[i]? with
    | none =>
      rw [Vals.none_of h q]
      exact perm_vals h pm
    | some v =>
      obtain ⟨u, h1, h2⟩ := Vals.get h q
      rw [h1]
      exact .cons h2 (perm_vals h pm)
/-- n operands by place, k by name -/
def sApp (n k : Nat) (f g : AS) : AS := fun S => (f S).bind fun p => (g p.2).bind fun q => if p.1.length = n ∧ q.1.length = k then some (p.1 ++ q.1, q.2) else none
def sCallR (n : Nat) (m : Fn) (fs : AS) : List SD → Option (SD × List SD) := fun S => (fs S).bind fun p => (opSDs p.2 p.1).bind fun Dl => if p.1.length = n ∧ (ownIx p.2 p.1).Nodup then (m Dl).map fun q => (q.1, wbGo p.1 q.2 0 p.2) else none
def sPerm (pm : List Nat) (f : AS) : AS := fun S => (f S).map fun p => (perm pm p.1, p.2)
def resD : SD → Option PyData
  | .d x => some x
  | .own false xs => some (.list xs)
  | _ => none
def resL : SD → Option (List PyData)
  | .own false xs => some xs
  | _ => none
def sCall (n : Nat) (m : Fn) (fs : AS) : ES := fun S => (sCallR n m fs S).bind fun p => (resD p.1).map fun x => (.dat x, p.2)
def sCallL (n : Nat) (m : Fn) (fs : AS) : LS := fun S => (sCallR n m fs S).bind fun p => (resL p.1).map fun x => (x, p.2)
def tCallG (sp : Sp) (t : TA) : TE := fun σ H Q => t σ H fun vs H1 => sp vs H1 Q E0
def tPerm (pm : List Nat) (t : TA) : TA := fun σ H Q => t σ H fun vs H1 => Q (perm pm vs) H1
def tApp (n k : Nat) (t u : TA) : TA := fun σ H Q => t σ H fun vs H1 => u σ H1 fun ws H2 => vs.length = n ∧ ws.length = k ∧ Q (vs ++ ws) H2
section
variable {K : PySem.W.Frag} {tA tB : TA} {fs gs : AS} {n : Nat} {m : Fn}
theorem OpRs.append {G : Hp} {σ : L2.St} : ∀ {vs ws : List V} {os ps : List Op}, OpRs K G σ vs os → OpRs K G σ ws ps → OpRs K G σ (vs ++ ws) (os ++ ps)
  | _, _, _, _, .nil, h => h
  | _, _, _, _, .cons a b, h => .cons a (b.append h)
theorem sem_app {a b : Nat} (h1 : SemA K tA fs) (h2 : SemA K tB gs) : SemA K (tApp a b tA tB) (sApp a b fs gs) := by
  intro F S σ H G o S' r ef Q k
  obtain ⟨⟨o1, S1⟩, e1, e2⟩ := Option.bind_eq_some_iff.mp ef
  obtain ⟨⟨o2, S2⟩, e3, e4⟩ := Option.bind_eq_some_iff.mp e2
  split at e4
  · rename_i hl
    cases e4
    refine h1 F S σ H G o1 S1 r e1 _ fun v H1 G1 r1 g1 q1 => ?_
    refine h2 F S1 σ H1 G1 o2 _ r1 e3 _ fun vs H2 G2 r2 g2 q2 => ?_
    exact ⟨q1.length.trans hl.1, q2.length.trans hl.2, k _ H2 G2 r2 (g1.trans g2) ((q1.mono g2).append q2)⟩
  · cases e4
theorem sem_perm {pm : List Nat} (h1 : SemA K tA fs) : SemA K (tPerm pm tA) (sPerm pm fs) := by
  intro F S σ H G o S' r ef Q k
  obtain ⟨⟨o1, S1⟩, e1, e2⟩ := Option.map_eq_some_iff.mp ef
  cases e2
  exact h1 F S σ H G o1 _ r e1 _ fun v H1 G1 r1 g1 q1 => k _ H1 G1 r1 g1 (perm_rel q1 pm)
theorem sem_callR (h1 : SemA K tA fs) {F : Fr} {S S' : List SD} {σ : L2.St} {H G : Hp} {rs : SD} (r : SR K F S σ H G) (ef : sCallR n m fs S = some (rs, S')) {Q : VK}
    (k : ∀ v H' G', SR K F S' σ H' G' → Ex G G' → ResR K F S' σ H' G' v rs → Q v H') : tCallG (spM K n m) tA σ H Q := by
  obtain ⟨⟨os, S1⟩, e1, ef⟩ := Option.bind_eq_some_iff.mp ef
  obtain ⟨Dl, e2, ef⟩ := Option.bind_eq_some_iff.mp ef
  split at ef
  · rename_i hc
    obtain ⟨⟨rs', Dl'⟩, e3, e4⟩ := Option.map_eq_some_iff.mp ef
    cases e4
    refine h1 F S σ H G os S1 r e1 _ fun vs H1 G1 r1 g1 q1 => ?_
    refine ⟨Dl, G1, _, Dl', by rw [q1.length]; exact hc.1, r1.args q1 e2 hc.2, e3, fun v H' G' r' => ?_⟩
    obtain ⟨t1, t2⟩ := r1.called q1 e2 r'
    exact k v H' G' t1 (g1.trans r'.g0) t2
  · cases ef
theorem sem_call (h1 : SemA K tA fs) : SemE K (tCallG (spM K n m) tA) (sCall n m fs) := by
  intro F S σ H G o S' r ef Q k
  obtain ⟨⟨rs, S1⟩, e1, ef⟩ := Option.bind_eq_some_iff.mp ef
  obtain ⟨x, e2, e3⟩ := Option.map_eq_some_iff.mp ef
  cases e3
  refine sem_callR h1 r e1 fun v H' G' r1 g1 hr => ?_
  cases rs with
  | un => cases e2
  | d y => cases e2; exact k v H' G' r1 g1 hr
  | own b xs =>
    cases b with
    | true => cases e2
    | false =>
      cases e2
      obtain ⟨p, vs, rfl, h0, hg, ap, hh, ha⟩ := hr
      obtain ⟨G2, g2, r2, h2⟩ := r1.known h0 hg ap hh ha
      exact k _ H' G2 r2 (g1.trans g2) h2
theorem sem_callL (h1 : SemA K tA fs) : SemL K (tCallG (spM K n m) tA) (sCallL n m fs) := by
  intro F S σ H G o S' r ef Q k
  obtain ⟨⟨rs, S1⟩, e1, ef⟩ := Option.bind_eq_some_iff.mp ef
  obtain ⟨x, e2, e3⟩ := Option.map_eq_some_iff.mp ef
  cases e3
  refine sem_callR h1 r e1 fun v H' G' r1 g1 hr => ?_
  cases rs with
  | un => cases e2
  | d y => cases e2
  | own b xs =>
    cases b with
    | true => cases e2
    | false =>
      cases e2
      obtain ⟨p, vs, rfl, h0, hg, ap, hh, ha⟩ := hr
      exact k p vs H' G' r1 g1 h0 hg ap hh ha
end
section
variable {X : Cx} {K : PySem.W.Frag} {k : Nat} {f : Addr} {fd : FuncData} {ps ks : List Str} {m : Fn} {x : Str} {p pos : Pos} {e : Expr} {es : List Expr} {kws : List Keyword} {t u : TA} {fs gs : AS} {pm : List Nat}
/-- what a body knows of a def that it calls -/
structure Cal (P : Program) (w : World) (K : PySem.W.Frag) (mg : Str → Option Value) (base : Heap) (k : Nat) (x : Str) (ps : List Str) (m : Fn) (f : Addr) (fd : FuncData) : Prop where
  ok : FnG P w K mg base k f fd ps m
  mg : mg x = some (.ref f)
  kp : PySem.W.keepIn K (.ref f) = true
  bn : Binds K fd ps []
theorem after_call {pins : List (Addr × Obj)} {σ : L2.St} {H : Hp} {s : Shared} {Q : VK} {r : Result} {s' : Shared} (I : Inv X pins σ H s) (hq : CR CX0 X.stack X.prog X.w H s Q E0 r s') : (match r with
    | .ok (.ret u) => EP X pins σ Q u s'
    | _ => False) := by
  cases r with
  | error e => exact hq
  | ok fl =>
    cases fl with
    | ret u => exact I.after hq
    | next => exact hq
    | brk => exact hq
    | cont => exact hq
theorem run_G (F : FnG X.prog X.w X.K X.mg X.base k f fd ps m) (hr : Room k X.A) (hgd : X.A.guards = some []) {pins : List (Addr × Obj)} {σ : L2.St} {H : Hp} {s : Shared} {Q : VK} {us pu : List Value} {kw : List (Str × Value)} {vs : List V}
    (I : Inv X pins σ H s) (hb : BindsTo s fd ⟨us, kw⟩ (ps.zip pu)) (rv : Vals vs pu) (h : spM X.K ps.length m vs H Q E0) : wpAny (model X.prog X.w) X.A (call (.ref f) us kw) (EP X pins σ Q) X.xe s := by
  refine wpAny_call (codeAny_mono (F.run X.A X.stack s H ⟨us, kw⟩ pu vs Q hr hgd I.env0 hb rv h) fun r s' hq => ?_)
  have z := after_call I hq
  cases r with
  | error e => exact z.elim
  | ok fl =>
    cases fl with
    | ret u => exact z
    | next => exact z.elim
    | brk => exact z.elim
    | cont => exact z.elim
theorem pe_callG (hK : X.K = K) (C : Cal X.prog X.w K X.mg X.base k x ps m f fd) (hr : Room k X.A) (hgd : X.A.guards = some []) (ha : PA X (e :: es) t) (hg : Gl X x := by rfl) (hdb : (x == ("__debug__" : Str)) = false := by decide)
    (he : starEach (e :: es) X.env = (false, eval e X.env) :: starEach es X.env := by rfl) (hpl : (backTo pos (starEach es X.env)).any (·.1) = false := by rfl) : PE X (.Call (.Name x p) (e :: es) [] pos) (tCallG (spM K ps.length m) t) := by
  subst hK
  constructor
  intro pins s σ H Q I h
  refine wpAny_Call_Name_kw (ld_glob I hg C.mg ?_ hdb)
  refine PySem.W.callWith_K (h₀ := X.base) I.ok.mod.kin C.kp (thn (ha.run pos pins s σ H _ I h) ?_) he hpl
  rintro us s1 ⟨vs, H1, I1, r, q⟩
  have hl : us.length = ps.length := by
    obtain ⟨_, _, _, _, z, _⟩ := q
    rw [← r.length]; exact z
  have b := C.bn s1 us I1.kIn (by simpa using hl)
  rw [List.append_nil] at b
  exact ⟨I1.kIn, run_G C.ok hr hgd I1 b r q⟩
theorem pe_callG0 (hK : X.K = K) (C : Cal X.prog X.w K X.mg X.base k x ps m f fd) (hr : Room k X.A) (hgd : X.A.guards = some []) (hg : Gl X x := by rfl) (hdb : (x == ("__debug__" : Str)) = false := by decide) : PE X (.Call (.Name x p) [] [] pos) (tCallG (spM K ps.length m) tNil) := by
  subst hK
  constructor
  intro pins s σ H Q I q
  refine wpAny_Call_Name_kw (ld_glob I hg C.mg ?_ hdb)
  have hl : ([] : List Value).length = ps.length := by
    obtain ⟨_, _, _, _, z, _⟩ := q
    exact z
  have b := C.bn s [] I.kIn (by simpa using hl)
  exact PySem.W.callWith_K0 I.kIn C.kp (run_G C.ok hr hgd I (by simpa using b) .nil q)
/-- how the written values, the last ones by name, come to the parameters -/
def KwB (K : PySem.W.Frag) (fd : FuncData) (ps ks : List Str) (pm : List Nat) : Prop := ∀ (s : Shared) (us ws : List Value), K.In s.heap → us.length + ks.length = ps.length → ws.length = ks.length → BindsTo s fd ⟨us, ks.zip ws⟩ (ps.zip (perm pm (us ++ ws)))
theorem pe_callGK {n j : Nat} (hK : X.K = K) (C : Cal X.prog X.w K X.mg X.base k x ps m f fd) (B : KwB K fd ps ks pm) (hr : Room k X.A) (hgd : X.A.guards = some []) (ha : PA X (e :: es) t) (hkw : PK X kws u) (hn : n + ks.length = ps.length) (hj : j = ks.length)
    (hall : (backToKw pos (keywordEach kws X.env)).all (·.1.isSome) = true := by rfl) (hks : (backToKw pos (keywordEach kws X.env)).filterMap (·.1) = ks := by rfl) (hg : Gl X x := by rfl) (hdb : (x == ("__debug__" : Str)) = false := by decide)
    (he : starEach (e :: es) X.env = (false, eval e X.env) :: starEach es X.env := by rfl) (hpl : ((backTo pos (starEach (e :: es) X.env)).any (·.1) || (backToKw pos (keywordEach kws X.env)).any (·.1.isNone)) = false := by rfl) :
    PE X (.Call (.Name x p) (e :: es) kws pos) (tCallG (spM K ps.length m) (tPerm pm (tApp n j t u))) := by
  subst hK
  constructor
  intro pins s σ H Q I h
  refine wpAny_Call_Name_kw (ld_glob I hg C.mg ?_ hdb)
  refine PySem.W.callWith_KW (h₀ := X.base) I.ok.mod.kin C.kp hall (thn (ha.run pos pins s σ H _ I h) ?_) hpl he
  rintro us s1 ⟨vs, H1, I1, r, q⟩
  refine thn (hkw.run pos pins s1 σ H1 _ I1 q) ?_
  rintro ws s2 ⟨zs, H2, I2, rz, l1, l2, q2⟩
  refine ⟨I2.kIn, ?_⟩
  rw [hks]
  exact run_G C.ok hr hgd I2 (B s2 us ws I2.kIn (by rw [← r.length]; omega) (by rw [← rz.length]; omega)) (perm_vals (r.append rz) pm) q2
theorem pe_callGK0 {j : Nat} (hK : X.K = K) (C : Cal X.prog X.w K X.mg X.base k x ps m f fd) (B : KwB K fd ps ks pm) (hr : Room k X.A) (hgd : X.A.guards = some []) (hkw : PK X kws u) (hn : ks.length = ps.length) (hj : j = ks.length)
    (hall : (backToKw pos (keywordEach kws X.env)).all (·.1.isSome) = true := by rfl) (hks : (backToKw pos (keywordEach kws X.env)).filterMap (·.1) = ks := by rfl) (hg : Gl X x := by rfl) (hdb : (x == ("__debug__" : Str)) = false := by decide)
    (hpl : ((backTo pos (starEach [] X.env)).any (·.1) || (backToKw pos (keywordEach kws X.env)).any (·.1.isNone)) = false := by rfl) :
    PE X (.Call (.Name x p) [] kws pos) (tCallG (spM K ps.length m) (tPerm pm (tApp 0 j tNil u))) := by
  subst hK
  constructor
  intro pins s σ H Q I h
  refine wpAny_Call_Name_kw (ld_glob I hg C.mg ?_ hdb)
  refine PySem.W.callWith_KW0 (h₀ := X.base) I.ok.mod.kin C.kp hall (thn (hkw.run pos pins s σ H _ I h) ?_) hpl
  rintro ws s2 ⟨zs, H2, I2, rz, _, l2, q2⟩
  refine ⟨I2.kIn, ?_⟩
  rw [hks]
  exact run_G C.ok hr hgd I2 (B s2 [] ws I2.kIn (by simpa using hn) (by rw [← rz.length]; omega)) (perm_vals rz pm) q2
structure SK (X : Cx) (K : PySem.W.Frag) (kws : List Keyword) (t : TA) (f : AS) : Prop where
  p : PK X kws t
  ok : SemA K t f
theorem sk_nil : SK X K [] tNil sNil := ⟨pk_nil, sem_nil⟩
theorem sk_cons {te : TE} {fe : ES} {nm : Option Str} {kpos : Pos} (h : SE X K e te fe) (h2 : SK X K kws t fs) : SK X K (⟨nm, e, kpos⟩ :: kws) (tCons te t) (sCons fe fs) := ⟨pk_cons h.p h2.p, sem_cons h.ok h2.ok⟩
/-! the four forms of a call, as an operand and as a new list -/
theorem se_call (hK : X.K = K) (C : Cal X.prog X.w K X.mg X.base k x ps m f fd) (hr : Room k X.A) (hgd : X.A.guards = some []) (ha : SA X K (e :: es) t fs) (hg : Gl X x := by rfl) (hdb : (x == ("__debug__" : Str)) = false := by decide)
    (he : starEach (e :: es) X.env = (false, eval e X.env) :: starEach es X.env := by rfl) (hpl : (backTo pos (starEach es X.env)).any (·.1) = false := by rfl) : SE X K (.Call (.Name x p) (e :: es) [] pos) (tCallG (spM K ps.length m) t) (sCall ps.length m fs) := ⟨pe_callG hK C hr hgd ha.p hg hdb he hpl, sem_call ha.ok⟩
theorem sl_call (hK : X.K = K) (C : Cal X.prog X.w K X.mg X.base k x ps m f fd) (hr : Room k X.A) (hgd : X.A.guards = some []) (ha : SA X K (e :: es) t fs) (hg : Gl X x := by rfl) (hdb : (x == ("__debug__" : Str)) = false := by decide)
    (he : starEach (e :: es) X.env = (false, eval e X.env) :: starEach es X.env := by rfl) (hpl : (backTo pos (starEach es X.env)).any (·.1) = false := by rfl) : SL X K (.Call (.Name x p) (e :: es) [] pos) (tCallG (spM K ps.length m) t) (sCallL ps.length m fs) := ⟨pe_callG hK C hr hgd ha.p hg hdb he hpl, sem_callL ha.ok⟩
theorem se_call0 (hK : X.K = K) (C : Cal X.prog X.w K X.mg X.base k x ps m f fd) (hr : Room k X.A) (hgd : X.A.guards = some []) (hg : Gl X x := by rfl) (hdb : (x == ("__debug__" : Str)) = false := by decide) : SE X K (.Call (.Name x p) [] [] pos) (tCallG (spM K ps.length m) tNil) (sCall ps.length m sNil) := ⟨pe_callG0 hK C hr hgd hg hdb, sem_call sem_nil⟩
theorem se_callK {n j : Nat} (hK : X.K = K) (C : Cal X.prog X.w K X.mg X.base k x ps m f fd) (B : KwB K fd ps ks pm) (hr : Room k X.A) (hgd : X.A.guards = some []) (ha : SA X K (e :: es) t fs) (hkw : SK X K kws u gs) (hn : n + ks.length = ps.length := by rfl) (hj : j = ks.length := by rfl)
    (hall : (backToKw pos (keywordEach kws X.env)).all (·.1.isSome) = true := by rfl) (hks : (backToKw pos (keywordEach kws X.env)).filterMap (·.1) = ks := by rfl) (hg : Gl X x := by rfl) (hdb : (x == ("__debug__" : Str)) = false := by decide)
    (he : starEach (e :: es) X.env = (false, eval e X.env) :: starEach es X.env := by rfl) (hpl : ((backTo pos (starEach (e :: es) X.env)).any (·.1) || (backToKw pos (keywordEach kws X.env)).any (·.1.isNone)) = false := by rfl) :
    SE X K (.Call (.Name x p) (e :: es) kws pos) (tCallG (spM K ps.length m) (tPerm pm (tApp n j t u))) (sCall ps.length m (sPerm pm (sApp n j fs gs))) := ⟨pe_callGK hK C B hr hgd ha.p hkw.p hn hj hall hks hg hdb he hpl, sem_call (sem_perm (sem_app ha.ok hkw.ok))⟩
theorem sl_callK {n j : Nat} (hK : X.K = K) (C : Cal X.prog X.w K X.mg X.base k x ps m f fd) (B : KwB K fd ps ks pm) (hr : Room k X.A) (hgd : X.A.guards = some []) (ha : SA X K (e :: es) t fs) (hkw : SK X K kws u gs) (hn : n + ks.length = ps.length := by rfl) (hj : j = ks.length := by rfl)
    (hall : (backToKw pos (keywordEach kws X.env)).all (·.1.isSome) = true := by rfl) (hks : (backToKw pos (keywordEach kws X.env)).filterMap (·.1) = ks := by rfl) (hg : Gl X x := by rfl) (hdb : (x == ("__debug__" : Str)) = false := by decide)
    (he : starEach (e :: es) X.env = (false, eval e X.env) :: starEach es X.env := by rfl) (hpl : ((backTo pos (starEach (e :: es) X.env)).any (·.1) || (backToKw pos (keywordEach kws X.env)).any (·.1.isNone)) = false := by rfl) :
    SL X K (.Call (.Name x p) (e :: es) kws pos) (tCallG (spM K ps.length m) (tPerm pm (tApp n j t u))) (sCallL ps.length m (sPerm pm (sApp n j fs gs))) := ⟨pe_callGK hK C B hr hgd ha.p hkw.p hn hj hall hks hg hdb he hpl, sem_callL (sem_perm (sem_app ha.ok hkw.ok))⟩
theorem se_callK0 {j : Nat} (hK : X.K = K) (C : Cal X.prog X.w K X.mg X.base k x ps m f fd) (B : KwB K fd ps ks pm) (hr : Room k X.A) (hgd : X.A.guards = some []) (hkw : SK X K kws u gs) (hn : ks.length = ps.length := by rfl) (hj : j = ks.length := by rfl)
    (hall : (backToKw pos (keywordEach kws X.env)).all (·.1.isSome) = true := by rfl) (hks : (backToKw pos (keywordEach kws X.env)).filterMap (·.1) = ks := by rfl) (hg : Gl X x := by rfl) (hdb : (x == ("__debug__" : Str)) = false := by decide)
    (hpl : ((backTo pos (starEach [] X.env)).any (·.1) || (backToKw pos (keywordEach kws X.env)).any (·.1.isNone)) = false := by rfl) :
    SE X K (.Call (.Name x p) [] kws pos) (tCallG (spM K ps.length m) (tPerm pm (tApp 0 j tNil u))) (sCall ps.length m (sPerm pm (sApp 0 j sNil gs))) := ⟨pe_callGK0 hK C B hr hgd hkw.p hn hj hall hks hg hdb hpl, sem_call (sem_perm (sem_app sem_nil hkw.ok))⟩
theorem sl_callK0 {j : Nat} (hK : X.K = K) (C : Cal X.prog X.w K X.mg X.base k x ps m f fd) (B : KwB K fd ps ks pm) (hr : Room k X.A) (hgd : X.A.guards = some []) (hkw : SK X K kws u gs) (hn : ks.length = ps.length := by rfl) (hj : j = ks.length := by rfl)
    (hall : (backToKw pos (keywordEach kws X.env)).all (·.1.isSome) = true := by rfl) (hks : (backToKw pos (keywordEach kws X.env)).filterMap (·.1) = ks := by rfl) (hg : Gl X x := by rfl) (hdb : (x == ("__debug__" : Str)) = false := by decide)
    (hpl : ((backTo pos (starEach [] X.env)).any (·.1) || (backToKw pos (keywordEach kws X.env)).any (·.1.isNone)) = false := by rfl) :
    SL X K (.Call (.Name x p) [] kws pos) (tCallG (spM K ps.length m) (tPerm pm (tApp 0 j tNil u))) (sCallL ps.length m (sPerm pm (sApp 0 j sNil gs))) := ⟨pe_callGK0 hK C B hr hgd hkw.p hn hj hall hks hg hdb hpl, sem_callL (sem_perm (sem_app sem_nil hkw.ok))⟩
end
end DL

set_option Elab.async false
set_option linter.all false
set_option maxRecDepth 100000
set_option maxHeartbeats 4000000
/-! DL, part 5: operators and built-ins over data. -/
namespace DL
open PySem PySem.Spec PyProof.Rows L2

/-! ### data that == takes -/
def fitN (n : Nat) (d : PyData) : Bool := d.canLay0 && decide (d.depth ≤ n)
theorem fit_shaped {d : PyData} (h : fitN 60 d = true) : SeqAt.shaped d = true := by
  unfold fitN at h
  unfold SeqAt.shaped
  rw [Bool.and_eq_true, decide_eq_true_eq] at h ⊢
  exact ⟨h.1, by omega⟩
theorem canLayAll_all : ∀ xs : List PyData, PyData.canLayAll0 xs = xs.all fun d => d.canLay0
  | [] => by simp [PyData.canLayAll0]
  | x :: xs => by simp [PyData.canLayAll0, canLayAll_all xs]
theorem depthAll_le (n : Nat) : ∀ xs : List PyData, decide (PyData.depthAll xs ≤ n) = xs.all fun d => decide (d.depth ≤ n)
  | [] => by simp [PyData.depthAll]
  | x :: xs => by
    have ih := depthAll_le n xs
    simp only [PyData.depthAll, List.all_cons, ← ih, ← Bool.decide_and]
    congr 1
    simp only [eq_iff_iff]
    omega
theorem all_and (p q : PyData → Bool) : ∀ xs : List PyData, (xs.all p && xs.all q) = xs.all fun d => p d && q d
  | [] => rfl
  | x :: xs => by
    rw [List.all_cons, List.all_cons, List.all_cons, ← all_and p q xs]
    cases p x <;> cases q x <;> simp
theorem fit_tuple (n : Nat) (xs : List PyData) : fitN (n + 1) (.tuple xs) = xs.all (fitN n) := by
  show (PyData.canLay0 (.tuple xs) && decide (PyData.depth (.tuple xs) ≤ n + 1)) = xs.all fun d => d.canLay0 && decide (d.depth ≤ n)
  rw [← all_and, ← depthAll_le n xs, ← canLayAll_all]
  simp only [PyData.canLay0, PyData.depth, Nat.add_le_add_iff_right]
theorem fit_list (n : Nat) (xs : List PyData) : fitN (n + 1) (.list xs) = xs.all (fitN n) := by
  show (PyData.canLay0 (.list xs) && decide (PyData.depth (.list xs) ≤ n + 1)) = xs.all fun d => d.canLay0 && decide (d.depth ≤ n)
  rw [← all_and, ← depthAll_le n xs, ← canLayAll_all]
  simp only [PyData.canLay0, PyData.depth, Nat.add_le_add_iff_right]
theorem fit_int (n : Nat) (i : Int) : fitN n (.int i) = true := by simp [fitN, PyData.canLay0, PyData.depth]
theorem fit_bool (n : Nat) (i : Bool) : fitN n (.bool i) = true := by simp [fitN, PyData.canLay0, PyData.depth]
theorem fit_none (n : Nat) : fitN n .none = true := by simp [fitN, PyData.canLay0, PyData.depth]
theorem fit_str (n : Nat) (x : Str) : fitN n (.str x) = PyData.strOk x := by simp [fitN, PyData.canLay0, PyData.depth]
theorem fit_mono {n m : Nat} {d : PyData} (h : fitN n d = true) (hm : n ≤ m) : fitN m d = true := by
  unfold fitN at h ⊢
  rw [Bool.and_eq_true, decide_eq_true_eq] at h ⊢
  exact ⟨h.1, by omega⟩

section
variable {K : PySem.W.Frag} {H G : Hp}
mutual
theorem Rp.dp : ∀ {d : PyData} {v : V}, Rp K H v d → d.canLay0 = true → Dp K H v d
  | _, _, .non, _ => .non
  | _, _, .bl b, _ => .bl b
  | _, _, .int b, _ => .int b
  | _, _, .str b, _ => .str b
  | _, _, .lst h r, c => .lst (.inl (.inl h)) (RpAll.dp r (by simpa [PyData.canLay0] using c))
  | _, _, .tup h r, c => .tup h (RpAll.dp r (by simpa [PyData.canLay0] using c))
  | _, _, .dic h r, c => by simp [PyData.canLay0] at c
  | _, _, .scr h r, c => by simp [PyData.canLay0] at c
theorem RpAll.dp : ∀ {ds : List PyData} {vs : List V}, RpAll K H vs ds → PyData.canLayAll0 ds = true → DpAll K H vs ds
  | _, _, .nil, _ => .nil
  | _, _, .cons h r, c => by
    have c' := Bool.and_eq_true_iff.mp (show (_ && _) = true by simpa [PyData.canLayAll0] using c)
    exact .cons (Rp.dp h c'.1) (RpAll.dp r c'.2)
end
theorem fit_lay {n : Nat} {d : PyData} (h : fitN n d = true) : d.canLay0 = true := (Bool.and_eq_true_iff.mp h).1
theorem fit_depth {n : Nat} {d : PyData} (h : fitN n d = true) : d.depth ≤ n := of_decide_eq_true (Bool.and_eq_true_iff.mp h).2
theorem fit_items_l {n : Nat} {ds : List PyData} (h : fitN n (.list ds) = true) : PyData.canLayAll0 ds = true := by simpa [PyData.canLay0] using fit_lay h
theorem fit_items_t {n : Nat} {ds : List PyData} (h : fitN n (.tuple ds) = true) : PyData.canLayAll0 ds = true := by simpa [PyData.canLay0] using fit_lay h
end
section
variable {X : Cx} {K : PySem.W.Frag} {pins : List (Addr × Obj)} {σ : L2.St} {H : Hp} {s : Shared}
theorem Rp.reads {n : Nat} {d : PyData} {v : V} {u : Value} (I : Inv X pins σ H s) (h : Rp X.K H v d) (f : fitN n d = true) (r : RelV v u) : ∃ as, Reads s.heap u d as := Dp.reads I d v u (h.dp (fit_lay f)) r

/-! ### == and != -/
def strEq : PyData → PyData → Option Bool
  | .str a, .str b => some (decide (a = b))
  | _, _ => none
def dEq (x y : PyData) : Option PyData := match strEq x y with
  | some b => some (.bool b)
  | none => if fitN 60 x = true ∧ fitN 60 y = true then some (.bool (PyData.eqv x y)) else none
def dNe (x y : PyData) : Option PyData := match strEq x y with
  | some b => some (.bool (!b))
  | none => if fitN 60 x = true ∧ fitN 60 y = true then some (.bool (!PyData.eqv x y)) else none
theorem strEq_some {x y : PyData} {b : Bool} (h : strEq x y = some b) : ∃ a c, x = .str a ∧ y = .str c ∧ b = decide (a = c) := by
  unfold strEq at h
  split at h
  · cases h; exact ⟨_, _, rfl, rfl, rfl⟩
  · cases h
def rEqX (K : PySem.W.Frag) : R2 := fun x y H Q => rEqD K x y H Q ∨ rEq x y H Q
def rNeX (K : PySem.W.Frag) : R2 := fun x y H Q => rNeD K x y H Q ∨ rNe x y H Q
theorem opEq (hK : X.K = K) {k : Nat} (hr : Room k X.A) : L2.OpR X (compareOp .Eq) (rEqX K) := by subst hK; exact (op_eqD hr.units).or op_eq
theorem opNe (hK : X.K = K) {k : Nat} (hr : Room k X.A) : L2.OpR X (compareOp .NotEq) (rNeX K) := by subst hK; exact (op_neD hr.units).or op_ne
theorem dec_strV {a c : Str} : decide (V.str a = V.str c) = decide (a = c) := by simp
theorem vEq : V2 K (rEqX K) dEq := fun G H v w x y z e rx ry h Q k => by
  unfold dEq at h
  split at h
  · rename_i b hb
    cases h
    obtain ⟨a, c, rfl, rfl, rfl⟩ := strEq_some hb
    have e1 := rx.str
    have e2 := ry.str
    subst e1 e2
    refine .inr ⟨rfl, ?_⟩
    rw [dec_strV]
    exact k _ H G (.refl e) (.bl _)
  · split at h
    · rename_i f
      cases h
      exact .inl ⟨x, y, (rx.rp e).dp (fit_lay f.1), (ry.rp e).dp (fit_lay f.2), fit_shaped f.1, fit_shaped f.2, k _ H G (.refl e) (.bl _)⟩
    · cases h
theorem vNe : V2 K (rNeX K) dNe := fun G H v w x y z e rx ry h Q k => by
  unfold dNe at h
  split at h
  · rename_i b hb
    cases h
    obtain ⟨a, c, rfl, rfl, rfl⟩ := strEq_some hb
    have e1 := rx.str
    have e2 := ry.str
    subst e1 e2
    refine .inr ⟨rfl, ?_⟩
    rw [dec_strV]
    exact k _ H G (.refl e) (.bl _)
  · split at h
    · rename_i f
      cases h
      exact .inl ⟨x, y, (rx.rp e).dp (fit_lay f.1), (ry.rp e).dp (fit_lay f.2), fit_shaped f.1, fit_shaped f.2, k _ H G (.refl e) (.bl _)⟩
    · cases h

/-! ### in, not in -/
def dItems : PyData → Option (List PyData)
  | .list xs => some xs
  | .tuple xs => some xs
  | _ => none
def dIn (x y : PyData) : Option PyData := if fitN 60 x = true ∧ fitN 60 y = true then (dItems y).map fun ds => .bool (ds.any fun z => PyData.eqv z x) else none
def dNotIn (x y : PyData) : Option PyData := if fitN 60 x = true ∧ fitN 60 y = true then (dItems y).map fun ds => .bool (!ds.any fun z => PyData.eqv z x) else none
def rInA (K : PySem.W.Frag) (neg : Bool) : R2 := fun x y H Q => ∃ d ds, Rp K H x d ∧ fitN 60 d = true ∧ ((Rp K H y (.list ds) ∧ fitN 60 (.list ds) = true) ∨ (Rp K H y (.tuple ds) ∧ fitN 60 (.tuple ds) = true)) ∧ Q (.bl (if neg then !ds.any fun z => PyData.eqv z d else ds.any fun z => PyData.eqv z d)) H
theorem opIn (hK : X.K = K) {k : Nat} (hr : Room k X.A) : L2.OpR X (compareOp .In) (rInA K false) := by
  subst hK
  intro pins s σ H x y v u Q I rx ry h
  have hu : X.A.units + 65 < cLine := by have := hr.un; omega
  obtain ⟨d, ds, hd, fd, he, q⟩ := h
  obtain ⟨as, r1⟩ := hd.reads I fd rx
  rcases he with ⟨he, fe⟩ | ⟨he, fe⟩
  · obtain ⟨bs, r2⟩ := he.reads I fe ry
    exact SeqAt.in_list_reads r2 r1 (fit_lay fe) (fit_lay fd) (room_in_shaped (fit_shaped fd) hu) ⟨.bl _, H, I, rfl, q⟩
  · obtain ⟨bs, r2⟩ := he.reads I fe ry
    exact SeqAt.in_tuple_reads r2 r1 (fit_lay fe) (fit_lay fd) (room_in_shaped (fit_shaped fd) hu) ⟨.bl _, H, I, rfl, q⟩
theorem opNotIn (hK : X.K = K) {k : Nat} (hr : Room k X.A) : L2.OpR X (compareOp .NotIn) (rInA K true) := by
  subst hK
  intro pins s σ H x y v u Q I rx ry h
  have hu : X.A.units + 65 < cLine := by have := hr.un; omega
  obtain ⟨d, ds, hd, fd, he, q⟩ := h
  obtain ⟨as, r1⟩ := hd.reads I fd rx
  rcases he with ⟨he, fe⟩ | ⟨he, fe⟩
  · obtain ⟨bs, r2⟩ := he.reads I fe ry
    exact SeqAt.notIn_list_reads r2 r1 (fit_lay fe) (fit_lay fd) (room_in_shaped (fit_shaped fd) hu) ⟨.bl _, H, I, rfl, q⟩
  · obtain ⟨bs, r2⟩ := he.reads I fe ry
    exact SeqAt.notIn_tuple_reads r2 r1 (fit_lay fe) (fit_lay fd) (room_in_shaped (fit_shaped fd) hu) ⟨.bl _, H, I, rfl, q⟩
theorem vIn : V2 K (rInA K false) dIn := fun G H v w x y z e rx ry h Q k => by
  unfold dIn at h
  split at h
  · rename_i f
    obtain ⟨ds, h1, rfl⟩ := Option.map_eq_some_iff.mp h
    refine ⟨x, ds, rx.rp e, f.1, ?_, k _ H G (.refl e) (.bl _)⟩
    cases y with
    | list xs => cases h1; exact .inl ⟨ry.rp e, f.2⟩
    | tuple xs => cases h1; exact .inr ⟨ry.rp e, f.2⟩
    | _ => cases h1
  · cases h
theorem vNotIn : V2 K (rInA K true) dNotIn := fun G H v w x y z e rx ry h Q k => by
  unfold dNotIn at h
  split at h
  · rename_i f
    obtain ⟨ds, h1, rfl⟩ := Option.map_eq_some_iff.mp h
    refine ⟨x, ds, rx.rp e, f.1, ?_, k _ H G (.refl e) (.bl _)⟩
    cases y with
    | list xs => cases h1; exact .inl ⟨ry.rp e, f.2⟩
    | tuple xs => cases h1; exact .inr ⟨ry.rp e, f.2⟩
    | _ => cases h1
  · cases h

/-! ### is, is not: with None, with True and False -/
def isNoneD : PyData → Bool
  | .none => true
  | _ => false
def dIs (x y : PyData) : Option PyData := match y with
  | .none => some (.bool (isNoneD x))
  | .bool b => match x with
    | .bool a => some (.bool (decide (a = b)))
    | _ => none
  | _ => none
def dIsNot (x y : PyData) : Option PyData := match y with
  | .none => some (.bool (!isNoneD x))
  | .bool b => match x with
    | .bool a => some (.bool (!decide (a = b)))
    | _ => none
  | _ => none
def rIs (neg : Bool) : R2 := fun x y H Q => (y = .non ∧ Q (.bl (if neg then !decide (x = .non) else decide (x = .non))) H) ∨ ∃ a b : Bool, x = .bl a ∧ y = .bl b ∧ Q (.bl (if neg then !decide (a = b) else decide (a = b))) H
theorem opIs : L2.OpR X (compareOp .Is) (rIs false) := op_isN.or op_isBl
theorem opIsNot : L2.OpR X (compareOp .IsNot) (rIs true) := op_notN.or op_notBl
theorem RV.isNone {G : Hp} {v : V} {x : PyData} (h : RV K G H v x) : decide (v = .non) = isNoneD x := by
  cases x with
  | none => rw [h.non]; rfl
  | bool b => rw [h.bl]; rfl
  | int b => rw [h.int]; rfl
  | str b => rw [h.str]; rfl
  | list b =>
    rcases h with h | ⟨a, vs, xs, _, h2, _⟩
    · cases h; rfl
    · rw [h2]; rfl
  | tuple b =>
    rcases h with h | ⟨a, vs, xs, q, h2, _⟩
    · cases h; rfl
    · cases q
  | dict b =>
    rcases h with h | ⟨a, vs, xs, q, h2, _⟩
    · cases h <;> rfl
    · cases q
theorem vIs : V2 K (rIs false) dIs := fun G H v w x y z e rx ry h Q k => by
  unfold dIs at h
  cases y with
  | none =>
    cases h
    refine .inl ⟨ry.non, ?_⟩
    have := k _ H G (.refl e) (.bl (isNoneD x))
    rw [← rx.isNone] at this
    exact this
  | bool b =>
    cases x with
    | bool a => cases h; exact .inr ⟨a, b, rx.bl, ry.bl, k _ H G (.refl e) (.bl _)⟩
    | _ => cases h
  | _ => cases h
theorem vIsNot : V2 K (rIs true) dIsNot := fun G H v w x y z e rx ry h Q k => by
  unfold dIsNot at h
  cases y with
  | none =>
    cases h
    refine .inl ⟨ry.non, ?_⟩
    have := k _ H G (.refl e) (.bl (!isNoneD x))
    rw [← rx.isNone] at this
    exact this
  | bool b =>
    cases x with
    | bool a => cases h; exact .inr ⟨a, b, rx.bl, ry.bl, k _ H G (.refl e) (.bl _)⟩
    | _ => cases h
  | _ => cases h

/-! ### ints -/
def dI2 (g : Int → Int → PyData) (x y : PyData) : Option PyData := match x, y with
  | .int i, .int j => some (g i j)
  | _, _ => none
theorem vI2 {g : Int → Int → PyData} {h : Int → Int → V} (hg : ∀ i j G, Rp K G (h i j) (g i j)) : V2 K (rI0 h) (dI2 g) := fun G H v w x y z e rx ry q Q k => by
  cases x with
  | int i => cases y with
    | int j => cases q; exact ⟨i, j, rx.int, ry.int, k _ H G (.refl e) (hg i j G)⟩
    | _ => cases q
  | _ => cases q
def dLt := dI2 fun i j => .bool (decide (i < j))
def dLe := dI2 fun i j => .bool (decide (i ≤ j))
def dGt := dI2 fun i j => .bool (decide (j < i))
def dGe := dI2 fun i j => .bool (decide (j ≤ i))
def dSub := dI2 fun i j => .int (i - j)
theorem vLt : V2 K (rI0 fun i j => .bl (decide (i < j))) dLt := vI2 fun i j G => .bl _
theorem vLe : V2 K (rI0 fun i j => .bl (decide (i ≤ j))) dLe := vI2 fun i j G => .bl _
theorem vGt : V2 K (rI0 fun i j => .bl (decide (j < i))) dGt := vI2 fun i j G => .bl _
theorem vGe : V2 K (rI0 fun i j => .bl (decide (j ≤ i))) dGe := vI2 fun i j G => .bl _
theorem vSub : V2 K (rI0 fun i j => .int (i - j)) dSub := vI2 fun i j G => .int _
def dIC (C : Int → Int → Prop) [∀ i j, Decidable (C i j)] (g : Int → Int → PyData) (x y : PyData) : Option PyData := match x, y with
  | .int i, .int j => if C i j then some (g i j) else none
  | _, _ => none
theorem vIC {C : Int → Int → Prop} [∀ i j, Decidable (C i j)] {g : Int → Int → PyData} {h : Int → Int → V} (hg : ∀ i j G, Rp K G (h i j) (g i j)) : V2 K (rI C h) (dIC C g) := fun G H v w x y z e rx ry q Q k => by
  cases x with
  | int i => cases y with
    | int j =>
      have q : (if C i j then some (g i j) else none) = some z := q
      split at q
      · rename_i hc
        cases q; exact ⟨i, j, rx.int, ry.int, hc, k _ H G (.refl e) (hg i j G)⟩
      · cases q
    | _ => cases q
  | _ => cases q
noncomputable instance (i j : Int) : Decidable (CDiv i j) := Classical.propDecidable _
noncomputable instance (i j : Int) : Decidable (CPow i j) := Classical.propDecidable _
noncomputable instance (i j : Int) : Decidable (CMul i j) := Classical.propDecidable _
def dMod := dIC (fun _ j => 0 < j) fun i j => .int (i % j)
noncomputable def dDiv := dIC CDiv fun i j => .int (i / j)
noncomputable def dPow := dIC CPow fun i j => .int (i ^ j.toNat)
theorem vMod : V2 K (rI (fun _ j => 0 < j) fun i j => .int (i % j)) dMod := vIC fun i j G => .int _
theorem vDiv : V2 K (rI CDiv fun i j => .int (i / j)) dDiv := vIC fun i j G => .int _
theorem vPow : V2 K (rI CPow fun i j => .int (i ^ j.toNat)) dPow := vIC fun i j G => .int _
def dNeg : PyData → Option PyData
  | .int i => some (.int (-i))
  | _ => none
theorem vNeg : V1 K (rU fun i => .int (-i)) dNeg := fun G H v x z e rx q Q k => by
  cases x with
  | int i => cases q; exact ⟨i, rx.int, k _ H G (.refl e) (.int _)⟩
  | _ => cases q

/-! ### +, * -/
def dAdd (x y : PyData) : Option PyData := match x, y with
  | .int i, .int j => some (.int (i + j))
  | .str a, .str b => if a.length + b.length ≤ 100000 then some (.str (a ++ b)) else none
  | .tuple xs, .tuple ys => if xs.length + ys.length ≤ 100000 then some (.tuple (xs ++ ys)) else none
  | .list xs, .list ys => if xs.length + ys.length ≤ 100000 then some (.list (xs ++ ys)) else none
  | _, _ => none
def dAddL (x y : PyData) : Option (List PyData) := match x, y with
  | .list xs, .list ys => if xs.length + ys.length ≤ 100000 then some (xs ++ ys) else none
  | _, _ => none
def rAddA (K : PySem.W.Frag) : R2 := fun x y H Q => rI0 (fun i j => .int (i + j)) x y H Q ∨ (∃ i j, x = .str i ∧ y = .str j ∧ i.length + j.length ≤ sizeLine ∧ Q (.str (i ++ j)) H) ∨ rCatA K x y H Q ∨ rCat x y H Q
theorem opAdd (hK : X.K = K) : L2.OpR X (binaryOp .Add) (rAddA K) := by subst hK; exact op_add.or (op_add_str.or (op_catA.or op_cat))
theorem vAdd : V2 K (rAddA K) dAdd := fun G H v w x y z e rx ry q Q k => by
  unfold dAdd at q
  cases x with
  | int i => cases y with
    | int j => cases q; exact .inl ⟨i, j, rx.int, ry.int, k _ H G (.refl e) (.int _)⟩
    | _ => cases q
  | str i => cases y with
    | str j =>
      have q : (if i.length + j.length ≤ 100000 then some (PyData.str (i ++ j)) else none) = some z := q
      split at q
      · rename_i hl
        cases q; exact .inr (.inl ⟨i, j, rx.str, ry.str, sz hl, k _ H G (.refl e) (.str _)⟩)
      · cases q
    | _ => cases q
  | tuple xs => cases y with
    | tuple ys =>
      have q : (if xs.length + ys.length ≤ 100000 then some (PyData.tuple (xs ++ ys)) else none) = some z := q
      split at q
      · rename_i hl
        cases q
        obtain ⟨a, vs, rfl, h1, h2⟩ := rx.tup e
        obtain ⟨b, ws, rfl, h3, h4⟩ := ry.tup e
        refine .inr (.inr (.inl ⟨a, b, vs, ws, rfl, rfl, h1, h3, by rw [h2.length, h4.length]; exact sz hl, fun hv => ?_, fun hv hw => ?_, fun hv hw p hp => ?_⟩))
        · subst hv
          cases h2
          rcases ry with ry | ⟨_, _, _, z, _⟩
          · exact k _ H G (.refl e) ry
          · cases z
        · subst hw
          cases h4
          rw [List.append_nil] at k
          rcases rx with rx | ⟨_, _, _, z, _⟩
          · exact k _ H G (.refl e) rx
          · cases z
        · have px := PX.laid (o := .tup (vs ++ ws)) e hp
          exact k _ _ _ px (.tup (.inl (.inl upd_same)) ((h2.append h4).mono px.gg))
      · cases q
    | _ => cases q
  | list xs => cases y with
    | list ys =>
      have q : (if xs.length + ys.length ≤ 100000 then some (PyData.list (xs ++ ys)) else none) = some z := q
      split at q
      · rename_i hl
        cases q
        obtain ⟨a, vs, rfl, h1, h2⟩ := rx.lst e
        obtain ⟨b, ws, rfl, h3, h4⟩ := ry.lst e
        refine .inr (.inr (.inr ⟨a, b, vs, ws, rfl, rfl, h1, h3, by rw [h2.length, h4.length]; exact sz hl, fun p hp => ?_⟩))
        have px := PX.laid (o := .lst (vs ++ ws)) e hp
        exact k _ _ _ px (.lst upd_same ((h2.append h4).mono px.gg))
      · cases q
    | _ => cases q
  | _ => cases q
theorem vAddL : V2L K (rAddA K) dAddL := fun G H v w x y z e rx ry q Q k => by
  unfold dAddL at q
  cases x with
  | list xs => cases y with
    | list ys =>
      have q : (if xs.length + ys.length ≤ 100000 then some (xs ++ ys) else none) = some z := q
      split at q
      · rename_i hl
        cases q
        obtain ⟨a, vs, rfl, h1, h2⟩ := rx.lst e
        obtain ⟨b, ws, rfl, h3, h4⟩ := ry.lst e
        refine .inr (.inr (.inr ⟨a, b, vs, ws, rfl, rfl, h1, h3, by rw [h2.length, h4.length]; exact sz hl, fun p hp => ?_⟩))
        exact k p (vs ++ ws) _ G (PX.side e hp) hp (e.free hp) upd_same (h2.append h4)
      · cases q
    | _ => cases q
  | _ => cases q
noncomputable def dMul (x y : PyData) : Option PyData := match x, y with
  | .int i, .int j => if CMul i j then some (.int (i * j)) else none
  | .tuple xs, .int k => if xs ≠ [] ∧ 2 ≤ k ∧ k ≤ 1000 ∧ xs.length ≤ 1000 then some (.tuple (List.replicate k.toNat xs).flatten) else none
  | .list xs, .int k => if 0 ≤ k ∧ k ≤ 1000 ∧ xs.length ≤ 1000 then some (.list (List.replicate k.toNat xs).flatten) else none
  | _, _ => none
def rMulA (K : PySem.W.Frag) : R2 := fun x y H Q => rI CMul (fun i j => .int (i * j)) x y H Q ∨ rRepT K x y H Q ∨ rRep x y H Q
theorem opMul (hK : X.K = K) : L2.OpR X (binaryOp .Mult) (rMulA K) := by subst hK; exact op_mul.or (op_repT.or op_rep)
theorem rep_len (n : Nat) (k : Nat) (xs : List PyData) : ((List.replicate k xs).flatten).length = k * xs.length := by
  induction k with
  | zero => simp
  | succ k ih => rw [List.replicate_succ, List.flatten_cons, List.length_append, ih, Nat.succ_mul]; omega
theorem vMul : V2 K (rMulA K) dMul := fun G H v w x y z e rx ry q Q k => by
  unfold dMul at q
  cases x with
  | int i => cases y with
    | int j =>
      have q : (if CMul i j then some (PyData.int (i * j)) else none) = some z := q
      split at q
      · rename_i hc
        cases q; exact .inl ⟨i, j, rx.int, ry.int, hc, k _ H G (.refl e) (.int _)⟩
      · cases q
    | _ => cases q
  | tuple xs => cases y with
    | int j =>
      have q : (if xs ≠ [] ∧ 2 ≤ j ∧ j ≤ 1000 ∧ xs.length ≤ 1000 then some (PyData.tuple (List.replicate j.toNat xs).flatten) else none) = some z := q
      split at q
      · rename_i hc
        cases q
        obtain ⟨a, vs, rfl, h1, h2⟩ := rx.tup e
        refine .inr (.inl ⟨a, j, vs, rfl, ry.int, h1, fun hv => ?_, hc.2.1, hc.2.2.1, by rw [h2.length]; exact hc.2.2.2, fun p hp => ?_⟩)
        · subst hv; cases h2; exact hc.1 rfl
        · have px := PX.laid (o := .tup (List.replicate j.toNat vs).flatten) e hp
          exact k _ _ _ px (.tup (.inl (.inl upd_same)) ((h2.flat _).mono px.gg))
      · cases q
    | _ => cases q
  | list xs => cases y with
    | int j =>
      have q : (if 0 ≤ j ∧ j ≤ 1000 ∧ xs.length ≤ 1000 then some (PyData.list (List.replicate j.toNat xs).flatten) else none) = some z := q
      split at q
      · rename_i hc
        cases q
        obtain ⟨a, vs, rfl, h1, h2⟩ := rx.lst e
        refine .inr (.inr ⟨a, j, vs, rfl, ry.int, h1, by omega, by omega, ?_, fun p hp => ?_⟩)
        · rw [h2.length]
          have h5 : xs.length * j.toNat ≤ 1000 * 1000 := Nat.mul_le_mul hc.2.2 (by omega)
          exact Nat.le_trans h5 (by decide)
        · have px := PX.laid (o := .lst (List.replicate j.toNat vs).flatten) e hp
          exact k _ _ _ px (.lst upd_same ((h2.flat _).mono px.gg))
      · cases q
    | _ => cases q
  | _ => cases q
def dMulL (x y : PyData) : Option (List PyData) := match x, y with
  | .list xs, .int k => if 0 ≤ k ∧ k ≤ 1000 ∧ xs.length ≤ 1000 then some (List.replicate k.toNat xs).flatten else none
  | _, _ => none
theorem vMulL : V2L K (rMulA K) dMulL := fun G H v w x y z e rx ry q Q k => by
  unfold dMulL at q
  cases x with
  | list xs => cases y with
    | int j =>
      have q : (if 0 ≤ j ∧ j ≤ 1000 ∧ xs.length ≤ 1000 then some (List.replicate j.toNat xs).flatten else none) = some z := q
      split at q
      · rename_i hc
        cases q
        obtain ⟨a, vs, rfl, h1, h2⟩ := rx.lst e
        refine .inr (.inr ⟨a, j, vs, rfl, ry.int, h1, by omega, by omega, ?_, fun p hp => ?_⟩)
        · rw [h2.length]
          have h5 : xs.length * j.toNat ≤ 1000 * 1000 := Nat.mul_le_mul hc.2.2 (by omega)
          exact Nat.le_trans h5 (by decide)
        · exact k p _ _ G (PX.side e hp) hp (e.free hp) upd_same (h2.flat _)
      · cases q
    | _ => cases q
  | _ => cases q

/-! ### subscripts -/
theorem atI_rp {G : Hp} {vs : List V} {xs : List PyData} {i : Int} {d : PyData} (h : RpAll K G vs xs) (e : atI xs i = some d) : ∃ v, atI vs i = some v ∧ Rp K G v d := by
  obtain ⟨j, h1, h2⟩ := Option.bind_eq_some_iff.mp e
  obtain ⟨v, h3, h4⟩ := h.get h2
  exact ⟨v, by unfold atI; rw [h.length, h1]; exact h3, h4⟩
def dIx (x y : PyData) : Option PyData := match x, y with
  | .tuple xs, .int i => atI xs i
  | .list xs, .int i => atI xs i
  | .dict [(.none, .list xs)], .int i => atI xs i
  | .str z, .int i => if z.length ≤ 100000 then (atI z.cps.toList i).map fun c => .str ⟨#[c]⟩ else none
  | _, _ => none
theorem opIx (hK : X.K = K) : IxR X (rIx K) := by subst hK; exact ix_seq
theorem vIx : V2 K (rIx K) dIx := fun G H v w x y z e rx ry q Q k => by
  unfold dIx at q
  split at q
  · rename_i xs i
    obtain ⟨a, vs, rfl, h1, h2⟩ := rx.tup e
    obtain ⟨u, h3, h4⟩ := atI_rp h2 q
    exact .inr (.inl ⟨a, vs, i, u, rfl, ry.int, h1, h3, k _ H G (.refl e) h4⟩)
  · rename_i xs i
    obtain ⟨a, vs, rfl, h1, h2⟩ := rx.lst e
    obtain ⟨u, h3, h4⟩ := atI_rp h2 q
    exact .inl ⟨a, vs, i, u, rfl, ry.int, .inl (.inl h1), h3, k _ H G (.refl e) h4⟩
  · rename_i xs i
    obtain ⟨a, vs, rfl, h1, h2⟩ := rx.scr e
    obtain ⟨u, h3, h4⟩ := atI_rp h2 q
    exact .inl ⟨a, vs, i, u, rfl, ry.int, h1, h3, k _ H G (.refl e) h4⟩
  · rename_i y i
    split at q
    · rename_i hl
      obtain ⟨c, h1, rfl⟩ := Option.map_eq_some_iff.mp q
      exact .inr (.inr ⟨y, i, c, rx.str, ry.int, sz hl, h1, k _ H G (.refl e) (.str _)⟩)
    · cases q
  · cases q

/-! ### len -/
def dLen : List PyData → Option PyData
  | [.tuple xs] => some (.int xs.length)
  | [.list xs] => some (.int xs.length)
  | [.dict [(.none, .list xs)]] => some (.int xs.length)
  | [.str z] => if z.length ≤ 100000 then some (.int z.length) else none
  | _ => none
def rLenA (K : PySem.W.Frag) : List V → Hp → VK → Prop := fun xs H Q => ∃ x n, xs = [x] ∧ LenV K x H n ∧ Q (.int n) H
theorem crLen (hK : X.K = K) : CallR X (.builtin "len") (rLenA K) := by subst hK; exact call_len
theorem vLen : VN K (rLenA K) dLen := fun G H vs xs z e rs q Q k => by
  unfold dLen at q
  split at q
  · cases rs with
    | cons r t =>
      cases t
      cases q
      obtain ⟨a, ws, rfl, h1, h2⟩ := r.tup e
      exact ⟨_, _, rfl, .inr ⟨ws, h1, by rw [h2.length]⟩, k _ H G (.refl e) (.int _)⟩
  · cases rs with
    | cons r t =>
      cases t
      cases q
      obtain ⟨a, ws, rfl, h1, h2⟩ := r.lst e
      exact ⟨_, _, rfl, .inl ⟨ws, .inl (.inl h1), by rw [h2.length]⟩, k _ H G (.refl e) (.int _)⟩
  · cases rs with
    | cons r t =>
      cases t
      cases q
      obtain ⟨a, ws, rfl, h1, h2⟩ := r.scr e
      exact ⟨_, _, rfl, .inl ⟨ws, h1, by rw [h2.length]⟩, k _ H G (.refl e) (.int _)⟩
  · cases rs with
    | cons r t =>
      cases t
      split at q
      · rename_i hl
        cases q
        rw [r.str]
        exact ⟨_, _, rfl, ⟨sz hl, rfl⟩, k _ H G (.refl e) (.int _)⟩
      · cases q
  · cases q
end
end DL

set_option Elab.async false
set_option linter.all false
set_option maxRecDepth 100000
set_option maxHeartbeats 4000000
/-! DL, part 6: calls of built-ins, slices, repr, what is walked. -/
namespace DL
open PySem PySem.Spec PyProof.Rows L2

section
variable {X : Cx} {K : PySem.W.Frag} {pins : List (Addr × Obj)} {σ : L2.St} {H G : Hp} {s : Shared}
/-! ### isinstance -/
inductive Tg where | none | bool | int | str | list | tuple | dict
def Tg.name : Tg → String
  | .none => "NoneType" | .int => "int" | .bool => "bool" | .str => "str" | .list => "list" | .tuple => "tuple" | .dict => "dict"
def isScr : List (PyData × PyData) → Bool
  | [(.none, _)] => true
  | _ => false
def tgD : PyData → Option Tg
  | .none => some .none | .bool _ => some .bool | .int _ => some .int | .str _ => some .str | .list _ => some .list | .tuple _ => some .tuple
  | .dict kvs => if isScr kvs = true then none else some .dict
/-- what stands at such a tag is a T -/
def tgIs : Tg → Tg → Bool
  | .int, .int => true | .int, .bool => true | .bool, .bool => true | .str, .str => true | .list, .list => true | .tuple, .tuple => true | .dict, .dict => true | .none, .none => true
  | _, _ => false
def isTy (T : Tg) (x : PyData) : Option Bool := (tgD x).map (tgIs T)
theorem RpKV.noScr {kvs : List (Key × V)} {ds : List (PyData × PyData)} (h : RpKV K H kvs ds) : isScr ds = false := by
  cases h with
  | nil => rfl
  | @cons k v r d ds h1 h2 => cases k <;> cases ds <;> rfl
theorem rp_ty {v : V} {x : PyData} {t : Tg} (h : Rp K H v x) (e : tgD x = some t) : TyX K H v (.type t.name) := by
  cases h with
  | non => cases e; exact .base .non
  | bl b => cases e; exact .base (.bl b)
  | int b => cases e; exact .base (.int b)
  | str b => cases e; exact .base (.str b)
  | lst h r => cases e; exact .base (.lst h)
  | tup h r =>
    cases e
    rcases h with (h | ⟨o, h⟩) | ⟨o, its, n, h1, h2, _⟩
    · exact .base (.tup h)
    · exact .fTuple h
    · exact .kTuple h1 h2
  | @dic a kvs ds h r =>
    have e : (if isScr ds = true then none else some Tg.dict) = some t := e
    rw [r.noScr] at e
    cases e
    rcases h with h | ⟨o, h⟩
    · exact .base (.dK h)
    · exact .fDict h
  | scr h r => cases e
theorem kitT (T t : Tg) (hT : T ≠ .none) : kitB t.name T.name = some (tgIs T t) := by
  cases T <;> first | exact absurd rfl hT | (cases t <;> decide +kernel)
def tIsi (K : PySem.W.Frag) (te : TE) (T : Tg) : TE := tCB (rIsi K) (tCons te (tCons (tC (.ty T.name)) tNil))
def sIsi (T : Tg) (fe : ES) : ES := fun S => (fe S).bind fun p => (p.1.get p.2).bind fun x => (isTy T x).map fun b => (.dat (.bool b), p.2)
theorem sem_isi {te : TE} {fe : ES} {T : Tg} (hT : T ≠ .none) (h1 : SemE K te fe) : SemE K (tIsi K te T) (sIsi T fe) := by
  intro F S σ H G o S' r ef Q k
  obtain ⟨⟨o1, S1⟩, e1, ef⟩ := Option.bind_eq_some_iff.mp ef
  obtain ⟨x, e3, ef⟩ := Option.bind_eq_some_iff.mp ef
  obtain ⟨b, e5, ef⟩ := Option.map_eq_some_iff.mp ef
  cases ef
  obtain ⟨t, e6, rfl⟩ := Option.map_eq_some_iff.mp e5
  refine h1 F S σ H G o1 _ r e1 _ fun v H1 G1 r1 g1 h2 => ?_
  exact ⟨v, .ty T.name, _, _, tgIs T t, rfl, .ty _, rp_ty ((op_get r1 h2 e3).rp r1.gh) e6, kit_ty (kitT T t hT), k _ H1 G1 r1 g1 (.bl _)⟩
theorem se_isi {tn : Str} {T : Tg} {p p2 pos : Pos} {e : Expr} {te : TE} {fe : ES} (hK : X.K = K) (hT : T ≠ .none) (hm : X.mg "isinstance" = none) (hmT : X.mg tn = none) (hbT : bootBuiltins tn = some (.type T.name)) (he : SE X K e te fe) (hg : Gl X "isinstance" := by rfl) (hgT : Gl X tn := by rfl) (hnT : tn ≠ "__name__" := by decide) (hdT : (tn == ("__debug__" : Str)) = false := by decide)
    (hs1 : starEach [e, .Name tn p2] X.env = (false, eval e X.env) :: starEach [.Name tn p2] X.env := by rfl) (hs2 : starEach [.Name tn p2] X.env = (false, eval (.Name tn p2) X.env) :: starEach [] X.env := by rfl) (hpl : (backTo pos (starEach [.Name tn p2] X.env)).any (·.1) = false := by rfl) :
    SE X K (.Call (.Name "isinstance" p) [e, .Name tn p2] [] pos) (tIsi K te T) (sIsi T fe) := by
  subst hK
  exact ⟨pe_callB call_isi hg hm (by decide +kernel) (pa_cons he.p (pa_cons (pe_bltn hgT hmT hbT (by exact rfl) hnT hdT) pa_nil hs2) hs1) (by decide) (by decide) hs1 hpl, sem_isi hT he.ok⟩
/-- isinstance(x, (T, U)) -/
def sIsi2 (T U : Tg) (fe : ES) : ES := fun S => (fe S).bind fun p => (p.1.get p.2).bind fun x => (isTy T x).bind fun b => (isTy U x).map fun c => (.dat (.bool (b || c)), p.2)
def tIsi2 (K : PySem.W.Frag) (te : TE) (T U : Tg) : TE := tCB (rIsiT K) (tCons te (tCons (tTup (tCons (tC (.ty T.name)) (tCons (tC (.ty U.name)) tNil))) tNil))
theorem sem_isi2 {te : TE} {fe : ES} {T U : Tg} (hT : T ≠ .none) (hU : U ≠ .none) (h1 : SemE K te fe) : SemE K (tIsi2 K te T U) (sIsi2 T U fe) := by
  intro F S σ H G o S' r ef Q k
  obtain ⟨⟨o1, S1⟩, e1, ef⟩ := Option.bind_eq_some_iff.mp ef
  obtain ⟨x, e3, ef⟩ := Option.bind_eq_some_iff.mp ef
  obtain ⟨b, e5, ef⟩ := Option.bind_eq_some_iff.mp ef
  obtain ⟨c, e7, ef⟩ := Option.map_eq_some_iff.mp ef
  cases ef
  obtain ⟨t, e6, rfl⟩ := Option.map_eq_some_iff.mp e5
  obtain ⟨t', e8, rfl⟩ := Option.map_eq_some_iff.mp e7
  rw [e6] at e8; cases e8
  refine h1 F S σ H G o1 _ r e1 _ fun v H1 G1 r1 g1 h2 => ?_
  refine ⟨by show 2 ≤ sizeLine; decide, fun p hp => ?_⟩
  have px := PX.side (o := HO.tup [.ty T.name, .ty U.name]) r1.gh hp
  refine ⟨v, p, [.ty T.name, .ty U.name], _, [_, _], tgIs T t || tgIs U t, rfl, upd_same, .cons (.ty _) (.cons (.ty _) .nil), rp_ty (((op_get r1 h2 e3).rp r1.gh).mono px.hh) e6, ?_, k _ _ G1 (r1.ext px) g1 (.bl _)⟩
  refine kitAny_cons (kit_ty (kitT T t hT)) (fun q => kitAny_cons (kit_ty (kitT U t hU)) (fun q2 => by rw [q, q2]; exact kitAny_nil) (fun q2 => by rw [q2]; simp)) (fun q => by rw [q]; rfl)
theorem se_isi2 {tn un : Str} {T U : Tg} {p p2 p3 p4 pos : Pos} {k0} {e : Expr} {te : TE} {fe : ES} (hK : X.K = K) (hT : T ≠ .none) (hU : U ≠ .none) (hm : X.mg "isinstance" = none) (hmT : X.mg tn = none) (hbT : bootBuiltins tn = some (.type T.name)) (hmU : X.mg un = none) (hbU : bootBuiltins un = some (.type U.name)) (he : SE X K e te fe) (hg : Gl X "isinstance" := by rfl) (hgT : Gl X tn := by rfl) (hgU : Gl X un := by rfl) (hnT : tn ≠ "__name__" := by decide) (hdT : (tn == ("__debug__" : Str)) = false := by decide) (hnU : un ≠ "__name__" := by decide) (hdU : (un == ("__debug__" : Str)) = false := by decide)
    (hs1 : starEach [e, .Tuple [.Name tn p2, .Name un p3] k0 p4] X.env = (false, eval e X.env) :: starEach [.Tuple [.Name tn p2, .Name un p3] k0 p4] X.env := by rfl) (hs2 : starEach [.Tuple [.Name tn p2, .Name un p3] k0 p4] X.env = (false, eval (.Tuple [.Name tn p2, .Name un p3] k0 p4) X.env) :: starEach [] X.env := by rfl) (hs3 : starEach [.Name tn p2, .Name un p3] X.env = (false, eval (.Name tn p2) X.env) :: starEach [.Name un p3] X.env := by rfl) (hs4 : starEach [.Name un p3] X.env = (false, eval (.Name un p3) X.env) :: starEach [] X.env := by rfl) (hpl : (backTo pos (starEach [.Tuple [.Name tn p2, .Name un p3] k0 p4] X.env)).any (·.1) = false := by rfl) :
    SE X K (.Call (.Name "isinstance" p) [e, .Tuple [.Name tn p2, .Name un p3] k0 p4] [] pos) (tIsi2 K te T U) (sIsi2 T U fe) := by
  subst hK
  exact ⟨pe_callB call_isiT hg hm (by decide +kernel) (pa_cons he.p (pa_cons (pe_tup (pa_cons (pe_bltn hgT hmT hbT (by exact rfl) hnT hdT) (pa_cons (pe_bltn hgU hmU hbU (by exact rfl) hnU hdU) pa_nil hs4) hs3)) pa_nil hs2) hs1) (by decide) (by decide) hs1 hpl, sem_isi2 hT hU he.ok⟩

/-! ### tuple(x), list(x) -/
def dTuple : List PyData → Option PyData
  | [.list xs] => some (.tuple xs)
  | [.tuple xs] => some (.tuple xs)
  | _ => none
def rTuple (K : PySem.W.Frag) : List V → Hp → VK → Prop := fun xs H Q => ∃ p ys, xs = [.ref p] ∧ ((SqL K H p ys ∧ ∀ l, H l = none → Q (.ref l) (upd H l (.tup ys))) ∨ (SqT K H p ys ∧ Q (.ref p) H))
theorem crTuple (hK : X.K = K) : CallR X (.type "tuple") (rTuple K) := by subst hK; exact call_tuple_of
theorem vTuple : VN K (rTuple K) dTuple := fun G H vs xs z e rs q Q k => by
  unfold dTuple at q
  split at q
  · cases rs with
    | cons r t =>
      cases t
      cases q
      obtain ⟨a, ws, rfl, h1, h2⟩ := r.lst e
      refine ⟨a, ws, rfl, .inl ⟨.inl (.inl h1), fun l hl => ?_⟩⟩
      have px := PX.laid (o := .tup ws) e hl
      exact k _ _ _ px (.tup (.inl (.inl upd_same)) (h2.mono px.gg))
  · cases rs with
    | cons r t =>
      cases t
      cases q
      obtain ⟨a, ws, rfl, h1, h2⟩ := r.tup e
      rcases r with r | ⟨_, _, _, z, _⟩
      · exact ⟨a, ws, rfl, .inr ⟨h1, k _ H G (.refl e) r⟩⟩
      · cases z
  · cases q
def dListL : List PyData → Option (List PyData)
  | [.list xs] => some xs
  | [.tuple xs] => some xs
  | _ => none
def rList (K : PySem.W.Frag) : List V → Hp → VK → Prop := fun xs H Q => ∃ p ys, xs = [.ref p] ∧ (SqL K H p ys ∨ SqT K H p ys) ∧ ∀ l, H l = none → Q (.ref l) (upd H l (.lst ys))
theorem crList (hK : X.K = K) : CallR X (.type "list") (rList K) := by subst hK; exact call_list_of
theorem vListL : VL K (rList K) dListL := fun G H vs xs z e rs q Q k => by
  unfold dListL at q
  split at q
  · cases rs with
    | cons r t =>
      cases t
      cases q
      obtain ⟨a, ws, rfl, h1, h2⟩ := r.lst e
      exact ⟨a, ws, rfl, .inl (.inl (.inl h1)), fun l hl => k l ws _ G (PX.side e hl) hl (e.free hl) upd_same h2⟩
  · cases rs with
    | cons r t =>
      cases t
      cases q
      obtain ⟨a, ws, rfl, h1, h2⟩ := r.tup e
      exact ⟨a, ws, rfl, .inr h1, fun l hl => k l ws _ G (PX.side e hl) hl (e.free hl) upd_same h2⟩
  · cases q

/-! ### all, any, sum; max, min; abs, int, divmod -/
def dBools : List PyData → Option (List Bool)
  | [] => some []
  | .bool b :: r => (dBools r).map fun bs => b :: bs
  | _ => none
def dInts : List PyData → Option (List Int)
  | [] => some []
  | .int b :: r => (dInts r).map fun bs => b :: bs
  | _ => none
theorem dBools_some : ∀ {xs : List PyData} {bs : List Bool}, dBools xs = some bs → xs = bs.map .bool
  | [], _, h => by cases h; rfl
  | .bool b :: r, _, h => by
    obtain ⟨bs, h1, rfl⟩ := Option.map_eq_some_iff.mp h
    rw [dBools_some h1]; rfl
  | .none :: _, _, h => by cases h
  | .int _ :: _, _, h => by cases h
  | .str _ :: _, _, h => by cases h
  | .list _ :: _, _, h => by cases h
  | .tuple _ :: _, _, h => by cases h
  | .dict _ :: _, _, h => by cases h
theorem dInts_some : ∀ {xs : List PyData} {bs : List Int}, dInts xs = some bs → xs = bs.map .int
  | [], _, h => by cases h; rfl
  | .int b :: r, _, h => by
    obtain ⟨bs, h1, rfl⟩ := Option.map_eq_some_iff.mp h
    rw [dInts_some h1]; rfl
  | .none :: _, _, h => by cases h
  | .bool _ :: _, _, h => by cases h
  | .str _ :: _, _, h => by cases h
  | .list _ :: _, _, h => by cases h
  | .tuple _ :: _, _, h => by cases h
  | .dict _ :: _, _, h => by cases h
theorem dBools_map : ∀ bs : List Bool, dBools (bs.map .bool) = some bs
  | [] => rfl
  | b :: bs => by show (dBools (bs.map .bool)).map _ = _; rw [dBools_map bs]; rfl
theorem dInts_map : ∀ bs : List Int, dInts (bs.map .int) = some bs
  | [] => rfl
  | b :: bs => by show (dInts (bs.map .int)).map _ = _; rw [dInts_map bs]; rfl
def dAll : List PyData → Option PyData
  | [.list xs] => (dBools xs).map fun bs => .bool (bs.all id)
  | _ => none
def dAny : List PyData → Option PyData
  | [.list xs] => (dBools xs).map fun bs => .bool (bs.any id)
  | _ => none
def dSum : List PyData → Option PyData
  | [.list xs] => (dInts xs).map fun bs => .int bs.sum
  | _ => none
theorem crAll (hK : X.K = K) (hc : X.calm = true) : CallR X (.builtin "all") (rAll K) := by subst hK; exact cr_all hc
theorem crAny (hK : X.K = K) (hc : X.calm = true) : CallR X (.builtin "any") (rAny K) := by subst hK; exact cr_any hc
theorem crSum (hK : X.K = K) (hc : X.calm = true) : CallR X (.builtin "sum") (rSum K) := by subst hK; exact cr_sum hc
theorem vAll : VN K (rAll K) dAll := fun G H vs xs z e rs q Q k => by
  unfold dAll at q
  split at q
  · obtain ⟨bs, h1, rfl⟩ := Option.map_eq_some_iff.mp q
    cases rs with
    | cons r t =>
      cases t
      obtain ⟨a, ws, rfl, h2, h3⟩ := r.lst e
      have hx := dBools_some h1
      subst hx
      have hw := h3.bools
      subst hw
      exact ⟨a, bs, rfl, .inl (.inl h2), k _ H G (.refl e) (.bl _)⟩
  · cases q
theorem vAny : VN K (rAny K) dAny := fun G H vs xs z e rs q Q k => by
  unfold dAny at q
  split at q
  · obtain ⟨bs, h1, rfl⟩ := Option.map_eq_some_iff.mp q
    cases rs with
    | cons r t =>
      cases t
      obtain ⟨a, ws, rfl, h2, h3⟩ := r.lst e
      have hx := dBools_some h1
      subst hx
      have hw := h3.bools
      subst hw
      exact ⟨a, bs, rfl, .inl (.inl h2), k _ H G (.refl e) (.bl _)⟩
  · cases q
theorem vSum : VN K (rSum K) dSum := fun G H vs xs z e rs q Q k => by
  unfold dSum at q
  split at q
  · obtain ⟨bs, h1, rfl⟩ := Option.map_eq_some_iff.mp q
    cases rs with
    | cons r t =>
      cases t
      obtain ⟨a, ws, rfl, h2, h3⟩ := r.lst e
      have hx := dInts_some h1
      subst hx
      have hw := h3.ints
      subst hw
      exact ⟨a, bs, rfl, .inl (.inl h2), k _ H G (.refl e) (.int _)⟩
  · cases q
def maxI : Int → List Int → Int
  | m, [] => m
  | m, x :: r => maxI (if x > m then x else m) r
def minI : Int → List Int → Int
  | m, [] => m
  | m, x :: r => minI (if x < m then x else m) r
theorem maxI_ge : ∀ (l : List Int) (m : Int), m ≤ maxI m l ∧ ∀ x ∈ l, x ≤ maxI m l
  | [], m => ⟨Int.le_refl _, fun x h => by cases h⟩
  | y :: r, m => by
    obtain ⟨h1, h2⟩ := maxI_ge r (if y > m then y else m)
    have h3 : m ≤ (if y > m then y else m) ∧ y ≤ (if y > m then y else m) := by split <;> omega
    refine ⟨by show m ≤ maxI _ r; omega, fun x hx => ?_⟩
    show x ≤ maxI _ r
    rcases List.mem_cons.mp hx with rfl | hx
    · omega
    · exact h2 x hx
theorem maxI_mem : ∀ (l : List Int) (m : Int), maxI m l = m ∨ maxI m l ∈ l
  | [], m => .inl rfl
  | y :: r, m => by
    rcases maxI_mem r (if y > m then y else m) with h | h
    · show maxI _ r = m ∨ maxI _ r ∈ y :: r
      rw [h]
      split
      · exact .inr (by simp)
      · exact .inl rfl
    · exact .inr (List.mem_cons_of_mem _ h)
theorem minI_le : ∀ (l : List Int) (m : Int), minI m l ≤ m ∧ ∀ x ∈ l, minI m l ≤ x
  | [], m => ⟨Int.le_refl _, fun x h => by cases h⟩
  | y :: r, m => by
    obtain ⟨h1, h2⟩ := minI_le r (if y < m then y else m)
    have h3 : (if y < m then y else m) ≤ m ∧ (if y < m then y else m) ≤ y := by split <;> omega
    refine ⟨by show minI _ r ≤ m; omega, fun x hx => ?_⟩
    show minI _ r ≤ x
    rcases List.mem_cons.mp hx with rfl | hx
    · omega
    · exact h2 x hx
theorem minI_mem : ∀ (l : List Int) (m : Int), minI m l = m ∨ minI m l ∈ l
  | [], m => .inl rfl
  | y :: r, m => by
    rcases minI_mem r (if y < m then y else m) with h | h
    · show minI _ r = m ∨ minI _ r ∈ y :: r
      rw [h]
      split
      · exact .inr (by simp)
      · exact .inl rfl
    · exact .inr (List.mem_cons_of_mem _ h)
def dMax : List PyData → Option PyData
  | [.int i, .int j] => some (.int (if j > i then j else i))
  | [.list xs] => (dInts xs).bind fun ns => match ns with
    | [] => none
    | n :: r => some (.int (maxI n r))
  | _ => none
def dMin : List PyData → Option PyData
  | [.int i, .int j] => some (.int (if j < i then j else i))
  | [.list xs] => (dInts xs).bind fun ns => match ns with
    | [] => none
    | n :: r => some (.int (minI n r))
  | _ => none
theorem CallR.or {f : Value} {r r' : List V → Hp → VK → Prop} (h : CallR X f r) (h' : CallR X f r') : CallR X f (fun xs H Q => r xs H Q ∨ r' xs H Q) := fun pins s σ H xs us Q I rv q => q.elim (h pins s σ H xs us Q I rv) (h' pins s σ H xs us Q I rv)
def rMaxA (K : PySem.W.Frag) : List V → Hp → VK → Prop := fun xs H Q => (∃ i j, xs = [.int i, .int j] ∧ Q (.int (if j > i then j else i)) H) ∨ rMax K xs H Q
def rMinA (K : PySem.W.Frag) : List V → Hp → VK → Prop := fun xs H Q => (∃ i j, xs = [.int i, .int j] ∧ Q (.int (if j < i then j else i)) H) ∨ rMin K xs H Q
theorem crMax (hK : X.K = K) (hc : X.calm = true) : CallR X (.builtin "max") (rMaxA K) := by subst hK; exact CallR.or (call_max2 hc) (cr_max hc)
theorem crMin (hK : X.K = K) (hc : X.calm = true) : CallR X (.builtin "min") (rMinA K) := by subst hK; exact CallR.or (call_min2 hc) (cr_min hc)
theorem vMax : VN K (rMaxA K) dMax := fun G H vs xs z e rs q Q k => by
  unfold dMax at q
  split at q
  · cases rs with
    | cons r t => cases t with
      | cons r2 t => cases t; cases q; exact .inl ⟨_, _, by rw [r.int, r2.int], k _ H G (.refl e) (.int _)⟩
  · obtain ⟨ns, h1, h2⟩ := Option.bind_eq_some_iff.mp q
    cases ns with
    | nil => cases h2
    | cons n l =>
      cases h2
      cases rs with
      | cons r t =>
        cases t
        obtain ⟨a, ws, rfl, h2, h3⟩ := r.lst e
        have hx := dInts_some h1
        subst hx
        have hw := h3.ints
        subst hw
        refine .inr ⟨a, n :: l, rfl, .inl (.inl h2), by simp, fun m hm hge => ?_⟩
        obtain ⟨g1, g2⟩ := maxI_ge l n
        have e1 : m = maxI n l := by
          have h5 : maxI n l ≤ m := by
            rcases maxI_mem l n with z | z
            · rw [z]; exact hge n (by simp)
            · exact hge _ (List.mem_cons_of_mem _ z)
          have h6 : m ≤ maxI n l := by
            rcases List.mem_cons.mp hm with rfl | z
            · exact g1
            · exact g2 m z
          omega
        subst e1
        exact k _ H G (.refl e) (.int _)
  · cases q
theorem vMin : VN K (rMinA K) dMin := fun G H vs xs z e rs q Q k => by
  unfold dMin at q
  split at q
  · cases rs with
    | cons r t => cases t with
      | cons r2 t => cases t; cases q; exact .inl ⟨_, _, by rw [r.int, r2.int], k _ H G (.refl e) (.int _)⟩
  · obtain ⟨ns, h1, h2⟩ := Option.bind_eq_some_iff.mp q
    cases ns with
    | nil => cases h2
    | cons n l =>
      cases h2
      cases rs with
      | cons r t =>
        cases t
        obtain ⟨a, ws, rfl, h2, h3⟩ := r.lst e
        have hx := dInts_some h1
        subst hx
        have hw := h3.ints
        subst hw
        refine .inr ⟨a, n :: l, rfl, .inl (.inl h2), by simp, fun m hm hge => ?_⟩
        obtain ⟨g1, g2⟩ := minI_le l n
        have e1 : m = minI n l := by
          have h5 : m ≤ minI n l := by
            rcases minI_mem l n with z | z
            · rw [z]; exact hge n (by simp)
            · exact hge _ (List.mem_cons_of_mem _ z)
          have h6 : minI n l ≤ m := by
            rcases List.mem_cons.mp hm with rfl | z
            · exact g1
            · exact g2 m z
          omega
        subst e1
        exact k _ H G (.refl e) (.int _)
  · cases q
def dAbs : List PyData → Option PyData
  | [.int i] => some (.int (if i < 0 then -i else i))
  | _ => none
def rAbs : List V → Hp → VK → Prop := fun xs H Q => ∃ i, xs = [.int i] ∧ Q (.int (if i < 0 then -i else i)) H
theorem crAbs : CallR X (.builtin "abs") rAbs := call_abs
theorem vAbs : VN K rAbs dAbs := fun G H vs xs z e rs q Q k => by
  unfold dAbs at q
  split at q
  · cases rs with
    | cons r t => cases t; cases q; exact ⟨_, by rw [r.int], k _ H G (.refl e) (.int _)⟩
  · cases q
def dInt : List PyData → Option PyData
  | [.int i] => some (.int i)
  | [.bool b] => some (.int (if b then 1 else 0))
  | _ => none
def rInt : List V → Hp → VK → Prop := fun xs H Q => (∃ i, xs = [.int i] ∧ Q (.int i) H) ∨ ∃ k, xs = [.bl k] ∧ Q (.int (if k then 1 else 0)) H
theorem crInt : CallR X (.type "int") rInt := call_int1
theorem vInt : VN K rInt dInt := fun G H vs xs z e rs q Q k => by
  unfold dInt at q
  split at q
  · cases rs with
    | cons r t => cases t; cases q; exact .inl ⟨_, by rw [r.int], k _ H G (.refl e) (.int _)⟩
  · cases rs with
    | cons r t => cases t; cases q; exact .inr ⟨_, by rw [r.bl], k _ H G (.refl e) (.int _)⟩
  · cases q
noncomputable def dDivmod : List PyData → Option PyData
  | [.int i, .int j] => if CDiv i j then some (.tuple [.int (i / j), .int (i % j)]) else none
  | _ => none
def rDivmod : List V → Hp → VK → Prop := fun xs H Q => ∃ i j, xs = [.int i, .int j] ∧ CDiv i j ∧ ∀ p, H p = none → Q (.ref p) (upd H p (.tup [.int (i / j), .int (i % j)]))
theorem crDivmod : CallR X (.builtin "divmod") rDivmod := call_divmod
theorem vDivmod : VN K rDivmod dDivmod := fun G H vs xs z e rs q Q k => by
  unfold dDivmod at q
  split at q
  · split at q
    · rename_i hc
      cases rs with
      | cons r t => cases t with
        | cons r2 t =>
          cases t; cases q
          rename_i i j _ _
          refine ⟨_, _, by rw [r.int, r2.int], hc, fun p hp => ?_⟩
          have px := PX.laid (o := .tup [.int (i / j), .int (i % j)]) e hp
          exact k _ _ _ px (.tup (.inl (.inl upd_same)) (.cons (.int _) (.cons (.int _) .nil)))
    · cases q
  · cases q

/-! ### sorted of ints -/
def insI (x : Int) : List Int → List Int
  | [] => [x]
  | y :: r => if x ≤ y then x :: y :: r else y :: insI x r
def sortI : List Int → List Int
  | [] => []
  | x :: r => insI x (sortI r)
theorem insI_perm (x : Int) : ∀ l : List Int, (insI x l).Perm (x :: l)
  | [] => .refl _
  | y :: r => by
    unfold insI
    split
    · exact .refl _
    · exact ((insI_perm x r).cons y).trans (.swap x y r)
theorem sortI_perm : ∀ l : List Int, (sortI l).Perm l
  | [] => .refl _
  | x :: r => (insI_perm x (sortI r)).trans ((sortI_perm r).cons x)
theorem insI_sorted (x : Int) : ∀ l : List Int, l.Pairwise (· ≤ ·) → (insI x l).Pairwise (· ≤ ·)
  | [], _ => by simp [insI]
  | y :: r, h => by
    have h' := List.pairwise_cons.mp h
    unfold insI
    split
    · rename_i hxy
      refine List.pairwise_cons.mpr ⟨fun z hz => ?_, h⟩
      rcases List.mem_cons.mp hz with rfl | hz
      · exact hxy
      · exact Int.le_trans hxy (h'.1 z hz)
    · rename_i hxy
      refine List.pairwise_cons.mpr ⟨fun z hz => ?_, insI_sorted x r h'.2⟩
      have hz := (insI_perm x r).mem_iff.mp hz
      rcases List.mem_cons.mp hz with rfl | hz
      · omega
      · exact h'.1 z hz
theorem sortI_sorted : ∀ l : List Int, (sortI l).Pairwise (· ≤ ·)
  | [] => .nil
  | x :: r => insI_sorted x _ (sortI_sorted r)
theorem sorted_unique : ∀ {l m : List Int}, l.Perm m → l.Pairwise (· ≤ ·) → m.Pairwise (· ≤ ·) → l = m
  | [], m, p, _, _ => (List.nil_perm.mp p).symm
  | x :: l, [], p, _, _ => by have := p.length_eq; simp at this
  | x :: l, y :: m, p, h1, h2 => by
    have a := List.pairwise_cons.mp h1
    have b := List.pairwise_cons.mp h2
    have e : x = y := by
      have m1 : x ∈ y :: m := p.mem_iff.mp (by simp)
      have m2 : y ∈ x :: l := p.mem_iff.mpr (by simp)
      rcases List.mem_cons.mp m1 with q | q
      · exact q
      · rcases List.mem_cons.mp m2 with q' | q'
        · exact q'.symm
        · have := b.1 x q
          have := a.1 y q'
          omega
    subst e
    rw [sorted_unique (p.cons_inv) a.2 b.2]

end
end DL

set_option Elab.async false
set_option linter.all false
set_option maxRecDepth 100000
set_option maxHeartbeats 4000000
/-! DL, between parts 6 and 7: zip of two things, each a list or a tuple (t: a tuple). -/
namespace ZB
open PySem PySem.Spec PyProof.Rows L2
/-- an iterator of a list or a tuple -/
def It2 (t : Bool) (h : Heap) (it l : Addr) (k : Nat) : Prop := match t with
  | true => h.IsTupleIter it l k
  | false => h.IsListIter it l k
def Sq2 (t : Bool) (h : Heap) (l : Addr) (xs : Array Value) : Prop := match t with
  | true => h.IsTuple l xs
  | false => h.IsList l xs
theorem It2.ext {t : Bool} {h h' : Heap} {x it l : Addr} {k : Nat} (q : It2 t h it l k) (e : Heap.ExtBut x h h') (n : it ≠ x) : It2 t h' it l k := by
  cases t
  · exact Heap.IsListIter.extBut q e n
  · exact Heap.IsTupleIter.extBut q e n
theorem Sq2.ext {t : Bool} {h h' : Heap} {x l : Addr} {xs : Array Value} (q : Sq2 t h l xs) (e : Heap.ExtBut x h h') (n : l ≠ x) : Sq2 t h' l xs := by
  cases t
  · exact Heap.IsList.extBut q e n
  · exact Heap.IsTuple.extBut q e n
theorem It2.cpy {t : Bool} {h h' : Heap} {it l : Addr} {k : Nat} (q : It2 t h it l k) (e : ∀ o, h.get? it = some o → h'.get? it = some o) : It2 t h' it l k := by
  cases t
  · exact Heap.IsListIter.at q e
  · exact Heap.IsTupleIter.at q e
theorem It2.obj {t : Bool} {h : Heap} {it l : Addr} {k : Nat} (q : It2 t h it l k) : ∃ o, h.get? it = some o ∧ o.data = .fields #[.ref l, .int k 0] := by
  cases t
  · obtain ⟨o, a, b, c⟩ := q; exact ⟨o, a, c⟩
  · obtain ⟨o, a, b, c⟩ := q; exact ⟨o, a, c⟩
section
variable {prog : Program} {w : World} {A : Around} {E : Value → Shared → Prop} {s : Shared}
theorem nx_item {t : Bool} {it l : Addr} {i : Nat} {items : Array Value} {x : Value} {Q : Value → Shared → Prop} (q : It2 t s.heap it l i) (p : Sq2 t s.heap l items) (e : items[i]? = some x)
    (k : ∀ h', It2 t h' it l (i + 1) → Heap.SameBut it s.heap h' → Q x { s with heap := h' }) : wpAny (model prog w) A (Builtin.SmallTypes.nextOf (.ref it)) Q E s := by
  cases t
  · exact wpAny_nextOf_list_item q p e k
  · exact RZ.nextOf_tuple_item q p e k
theorem nx_end {t : Bool} {it l : Addr} {i : Nat} {items : Array Value} {Q : Value → Shared → Prop} (hh : A.handled = none) (q : It2 t s.heap it l i) (p : Sq2 t s.heap l items) (e : items[i]? = none)
    (k : ∀ h' e, Heap.ExtBut it s.heap h' → (∃ o, h'.get? e = some o ∧ o.cls = .type "StopIteration") → E (.ref e) { s with heap := h' }) : wpAny (model prog w) A (Builtin.SmallTypes.nextOf (.ref it)) Q E s := by
  cases t
  · exact wpAny_nextOf_list_end hh q p e k
  · exact RZ.nextOf_tuple_end hh q p e k
theorem zb_next {t u : Bool} {z TI TO i1 i2 l1 l2 : Addr} {k1 k2 : Nat} {xs ys : Array Value} {x y a b : Value} {Q : Value → Shared → Prop} (D : ZipApart z TI TO i1 i2 l1 l2)
    (q0 : IsZip s.heap z TI TO .none) (qI : IsPair s.heap TI (.ref i1) (.ref i2)) (qO : IsPair s.heap TO a b) (q1 : It2 t s.heap i1 l1 k1) (q2 : It2 u s.heap i2 l2 k2)
    (p1 : Sq2 t s.heap l1 xs) (p2 : Sq2 u s.heap l2 ys) (ex : xs[k1]? = some x) (ey : ys[k2]? = some y)
    (fin : ∀ h', IsZip h' z TI TO (rawInt s.heap.objs.size) → IsPair h' TO x y → It2 t h' i1 l1 (k1 + 1) → It2 u h' i2 l2 (k2 + 1) → IsPair h' s.heap.objs.size x y →
      h'.objs.size = s.heap.objs.size + 1 → (∀ c o, c ≠ z → c ≠ TO → c ≠ i1 → c ≠ i2 → s.heap.get? c = some o → h'.get? c = some o) → Q (.ref s.heap.objs.size) { s with heap := h' }) :
    wpAny (model prog w) A (Builtin.«zip.__next__» ⟨[.ref z], []⟩) (fun fin s' => ∃ v, fin = .done (.ret v) ∧ Q v s') E s := by
  show wpAny _ _ (field (.ref z) 2 >>= _) _ _ _; refine wpAny_bind (wpAny_field q0 rfl (x := .bool false) rfl ?_); show wpAny _ _ (field (.ref z) 3 >>= _) _ _ _
  refine wpAny_bind (wpAny_field q0 rfl (x := .ref TI) rfl ?_); refine wpAny_bind (wpAny_seqItems qI rfl ?_); show wpAny _ _ (Builtin.SmallTypes.ownedTupleIsFree (.ref z) >>= _) _ _ _
  refine wpAny_bind ?_; unfold Builtin.SmallTypes.ownedTupleIsFree; refine wpAny_bind (wpAny_field q0 rfl (x := .none) rfl (wpAny_pure ?_)); simp only [if_true]
  refine wpAny_bind (wpAny_rule ?_); refine wpAny_bind (wpAny_field q0 rfl (x := .ref TO) rfl ?_); refine wpAny_bind (wpAny_setField_rec q0 (by simp) fun g1 z1 c1 => ?_)
  replace z1 : IsZip g1 z TI TO .ellipsis := z1; refine wpAny_bind ?_; simp only [List.zipIdx_cons, List.zipIdx_nil, List.forIn_cons, List.forIn_nil]
  refine wpAny_bind (wpAny_bind (wpAny_onRaise ?_)); show wpAny _ _ (Builtin.SmallTypes.nextOf (.ref i1) >>= _) _ _ _
  refine wpAny_bind (nx_item (q1.ext c1.extBut D.i1z) (p1.ext c1.extBut D.l1z) ex fun g2 r1 c2 => wpAny_pure ?_)
  have qO2 : IsPair g2 TO a b := c2.extBut _ _ D.TOi1 (c1.extBut _ _ D.TOz qO)
  refine wpAny_bind (wpAny_seqItems qO2 rfl ?_); refine wpAny_bind (wpAny_updateSeq_pair qO2 fun g3 qO3 c3 => ?_); replace qO3 : IsPair g3 TO x b := qO3
  refine wpAny_bind (wpAny_letGo (wpAny_pure ?_)); refine wpAny_bind (wpAny_bind (wpAny_onRaise ?_)); show wpAny _ _ (Builtin.SmallTypes.nextOf (.ref i2) >>= _) _ _ _
  refine wpAny_bind (nx_item (((q2.ext c1.extBut D.i2z).ext c2.extBut D.i12.symm).ext c3.extBut D.TOi2.symm) (((p2.ext c1.extBut D.l2z).ext c2.extBut D.l2i1).ext c3.extBut D.l2TO) ey fun g4 r2 c4 => wpAny_pure ?_)
  have qO4 : IsPair g4 TO x b := c4.extBut _ _ D.TOi2 qO3
  refine wpAny_bind (wpAny_seqItems qO4 rfl ?_); refine wpAny_bind (wpAny_updateSeq_pair qO4 fun g5 qO5 c5 => ?_); replace qO5 : IsPair g5 TO x y := qO5
  refine wpAny_bind (wpAny_letGo (wpAny_pure (wpAny_pure ?_))); refine wpAny_bind (wpAny_seqItems qO5 rfl ?_); refine wpAny_bind (wpAny_newTuple ?_)
  have sz : g5.objs.size = s.heap.objs.size := by rw [c5.1, c4.1, c3.1, c2.1, c1.1]
  have z5 : IsZip g5 z TI TO .ellipsis := c5.extBut _ _ D.TOz.symm (c4.extBut _ _ D.i2z.symm (c3.extBut _ _ D.TOz.symm (c2.extBut _ _ D.i1z.symm z1)))
  have kp : ∀ c o, c ≠ z → c ≠ TO → c ≠ i1 → c ≠ i2 → s.heap.get? c = some o → g5.get? c = some o := fun c o n1 n2 n3 n4 e => c5.extBut _ _ n2 (c4.extBut _ _ n4 (c3.extBut _ _ n2 (c2.extBut _ _ n3 (c1.extBut _ _ n1 e))))
  have r1' : It2 t g5 i1 l1 (k1 + 1) := ((r1.ext c3.extBut D.TOi1.symm).ext c4.extBut D.i12).ext c5.extBut D.TOi1.symm
  have r2' : It2 u g5 i2 l2 (k2 + 1) := r2.ext c5.extBut D.TOi2.symm
  have zlt : z < g5.objs.size := Heap.lt_size z5
  show wpAny _ _ (Builtin.SmallTypes.ownedTupleHandOut (.ref z) (.ref g5.objs.size) >>= _) _ _ _; refine wpAny_bind ?_; unfold Builtin.SmallTypes.ownedTupleHandOut
  have z6 : IsZip (g5.push { cls := .type "tuple", data := .seq #[x, y] }) z TI TO .ellipsis := Heap.get?_push_of_some _ z5
  refine wpAny_bind (wpAny_setField_rec z6 (by simp) fun g7 z7 c7 => ?_); replace z7 : IsZip g7 z TI TO (rawInt g5.objs.size) := z7
  refine wpAny_setField_rec z7 (by simp) fun g8 z8 c8 => ?_; replace z8 : IsZip g8 z TI TO (rawInt g5.objs.size) := z8
  have up : ∀ c o, c ≠ z → g5.get? c = some o → g8.get? c = some o := fun c o n e => c8.extBut _ _ n (c7.extBut _ _ n (Heap.get?_push_of_some _ e))
  have T8 : IsPair g8 g5.objs.size x y := c8.extBut _ _ (Nat.ne_of_gt zlt) (c7.extBut _ _ (Nat.ne_of_gt zlt) (Heap.get?_push_size _ rfl))
  have s8 : g8.objs.size = g5.objs.size + 1 := by rw [c8.1, c7.1, Heap.size_push]
  rw [sz] at z8 T8 s8; refine wpAny_pure ⟨_, rfl, ?_⟩; show Q (.ref g5.objs.size) _; rw [sz]
  exact fin g8 z8 (up _ _ D.TOz qO5) (r1'.cpy fun o e => up _ o D.i1z e) (r2'.cpy fun o e => up _ o D.i2z e) T8 s8 fun c o n1 n2 n3 n4 e => up c o n1 (kp c o n1 n2 n3 n4 e)
theorem zb_stop {t u : Bool} {z TI TO i1 i2 l1 l2 : Addr} {k1 k2 : Nat} {xs ys : Array Value} {a b : Value} {Q : Fin → Shared → Prop} (hh : A.handled = none) (D : ZipApart z TI TO i1 i2 l1 l2)
    (q0 : IsZip s.heap z TI TO .none) (qI : IsPair s.heap TI (.ref i1) (.ref i2)) (qO : IsPair s.heap TO a b) (q1 : It2 t s.heap i1 l1 k1) (q2 : It2 u s.heap i2 l2 k2)
    (p1 : Sq2 t s.heap l1 xs) (p2 : Sq2 u s.heap l2 ys) (out : xs[k1]? = none ∨ ys[k2]? = none)
    (fin : ∀ h' e, (∀ c o, c ≠ z → c ≠ TO → c ≠ i1 → c ≠ i2 → s.heap.get? c = some o → h'.get? c = some o) → (∃ o, h'.get? e = some o ∧ o.cls = .type "StopIteration") → E (.ref e) { s with heap := h' }) :
    wpAny (model prog w) A (Builtin.«zip.__next__» ⟨[.ref z], []⟩) Q E s := by
  show wpAny _ _ (field (.ref z) 2 >>= _) _ _ _; refine wpAny_bind (wpAny_field q0 rfl (x := .bool false) rfl ?_); show wpAny _ _ (field (.ref z) 3 >>= _) _ _ _
  refine wpAny_bind (wpAny_field q0 rfl (x := .ref TI) rfl ?_); refine wpAny_bind (wpAny_seqItems qI rfl ?_); show wpAny _ _ (Builtin.SmallTypes.ownedTupleIsFree (.ref z) >>= _) _ _ _
  refine wpAny_bind ?_; unfold Builtin.SmallTypes.ownedTupleIsFree; refine wpAny_bind (wpAny_field q0 rfl (x := .none) rfl (wpAny_pure ?_)); simp only [if_true]
  refine wpAny_bind (wpAny_rule ?_); refine wpAny_bind (wpAny_field q0 rfl (x := .ref TO) rfl ?_); refine wpAny_bind (wpAny_setField_rec q0 (by simp) fun g1 z1 c1 => ?_)
  replace z1 : IsZip g1 z TI TO .ellipsis := z1; refine wpAny_bind ?_; simp only [List.zipIdx_cons, List.zipIdx_nil, List.forIn_cons, List.forIn_nil]
  refine wpAny_bind (wpAny_bind (wpAny_onRaise ?_)); show wpAny _ _ (Builtin.SmallTypes.nextOf (.ref i1) >>= _) _ _ _
  have last : ∀ (g g' : Heap) (e : Addr), IsZip g z TI TO .ellipsis → (∃ o, g.get? e = some o ∧ o.cls = .type "StopIteration") → Heap.SameBut z g g' → e ≠ z ∧ ∃ o, g'.get? e = some o ∧ o.cls = .type "StopIteration" := fun g g' e zz ⟨o, ho, hc⟩ c => by
    have n : e ≠ z := fun q => by subst q; rw [zz] at ho; cases ho; simp at hc
    exact ⟨n, o, c.extBut _ _ n ho, hc⟩
  cases ex : xs[k1]? with
  | none =>
    refine wpAny_bind (nx_end hh (q1.ext c1.extBut D.i1z) (p1.ext c1.extBut D.l1z) ex fun g2 e c2 he => ?_)
    have z2 : IsZip g2 z TI TO .ellipsis := c2 _ _ D.i1z.symm z1
    exact wpAny_setField_rec z2 (by simp) fun g3 _ c3 => fin g3 e (fun c o n1 _ n3 _ v => c3.extBut _ _ n1 (c2 _ _ n3 (c1.extBut _ _ n1 v))) (last _ _ _ z2 he c3).2
  | some x =>
    have ey : ys[k2]? = none := by
      rcases out with h | h
      · rw [ex] at h; cases h
      · exact h
    refine wpAny_bind (nx_item (q1.ext c1.extBut D.i1z) (p1.ext c1.extBut D.l1z) ex fun g2 r1 c2 => wpAny_pure ?_)
    have qO2 : IsPair g2 TO a b := c2.extBut _ _ D.TOi1 (c1.extBut _ _ D.TOz qO)
    refine wpAny_bind (wpAny_seqItems qO2 rfl ?_); refine wpAny_bind (wpAny_updateSeq_pair qO2 fun g3 qO3 c3 => ?_)
    refine wpAny_bind (wpAny_letGo (wpAny_pure ?_)); refine wpAny_bind (wpAny_bind (wpAny_onRaise ?_)); show wpAny _ _ (Builtin.SmallTypes.nextOf (.ref i2) >>= _) _ _ _
    refine wpAny_bind (nx_end hh (((q2.ext c1.extBut D.i2z).ext c2.extBut D.i12.symm).ext c3.extBut D.TOi2.symm) (((p2.ext c1.extBut D.l2z).ext c2.extBut D.l2i1).ext c3.extBut D.l2TO) ey fun g4 e c4 he => ?_)
    have z4 : IsZip g4 z TI TO .ellipsis := c4 _ _ D.i2z.symm (c3.extBut _ _ D.TOz.symm (c2.extBut _ _ D.i1z.symm z1))
    exact wpAny_setField_rec z4 (by simp) fun g5 _ c5 => fin g5 e (fun c o n1 n2 n3 n4 v => c5.extBut _ _ n1 (c4 _ _ n4 (c3.extBut _ _ n2 (c2.extBut _ _ n3 (c1.extBut _ _ n1 v))))) (last _ _ _ z4 he c5).2
theorem py_next {t u : Bool} {z TI TO i1 i2 l1 l2 : Addr} {k1 k2 : Nat} {xs ys : Array Value} {x y a b : Value} {Q : Option Value → Shared → Prop} (D : ZipApart z TI TO i1 i2 l1 l2)
    (q0 : IsZip s.heap z TI TO .none) (qI : IsPair s.heap TI (.ref i1) (.ref i2)) (qO : IsPair s.heap TO a b) (q1 : It2 t s.heap i1 l1 k1) (q2 : It2 u s.heap i2 l2 k2)
    (p1 : Sq2 t s.heap l1 xs) (p2 : Sq2 u s.heap l2 ys) (ex : xs[k1]? = some x) (ey : ys[k2]? = some y)
    (fin : ∀ h', IsZip h' z TI TO (rawInt s.heap.objs.size) → IsPair h' TO x y → It2 t h' i1 l1 (k1 + 1) → It2 u h' i2 l2 (k2 + 1) → IsPair h' s.heap.objs.size x y →
      h'.objs.size = s.heap.objs.size + 1 → (∀ c o, c ≠ z → c ≠ TO → c ≠ i1 → c ≠ i2 → s.heap.get? c = some o → h'.get? c = some o) → Q (some (.ref s.heap.objs.size)) { s with heap := h' }) :
    wpAny (model prog w) A (pyNext (.ref z)) Q E s := by
  have ty : s.TypeIs (.ref z) "zip" := ⟨_, q0, rfl⟩
  unfold pyNext
  exact wpAny_bind (wpAny_attempt (wpAny_callSpecial?_slot (name := Str.ofString "__next__") ty F.slot_zip_next (wpAny_call_entry F.slot_zip_next ty F.entry_zip_next
      (zb_next D q0 qI qO q1 q2 p1 p2 ex ey fun h' a1 a2 a3 a4 a5 a6 a7 => wpAny_pure (fin h' a1 a2 a3 a4 a5 a6 a7)) (F.args_zip_next_1 _))))
theorem py_stop {t u : Bool} {z TI TO i1 i2 l1 l2 : Addr} {k1 k2 : Nat} {xs ys : Array Value} {a b : Value} {Q : Option Value → Shared → Prop} (hh : A.handled = none) (D : ZipApart z TI TO i1 i2 l1 l2)
    (q0 : IsZip s.heap z TI TO .none) (qI : IsPair s.heap TI (.ref i1) (.ref i2)) (qO : IsPair s.heap TO a b) (q1 : It2 t s.heap i1 l1 k1) (q2 : It2 u s.heap i2 l2 k2)
    (p1 : Sq2 t s.heap l1 xs) (p2 : Sq2 u s.heap l2 ys) (out : xs[k1]? = none ∨ ys[k2]? = none)
    (fin : ∀ h', (∀ c o, c ≠ z → c ≠ TO → c ≠ i1 → c ≠ i2 → s.heap.get? c = some o → h'.get? c = some o) → Q none { s with heap := h' }) : wpAny (model prog w) A (pyNext (.ref z)) Q E s := by
  have ty : s.TypeIs (.ref z) "zip" := ⟨_, q0, rfl⟩
  unfold pyNext
  refine wpAny_bind (wpAny_attempt (wpAny_callSpecial?_slot (name := Str.ofString "__next__") ty F.slot_zip_next (wpAny_call_entry F.slot_zip_next ty F.entry_zip_next
      (zb_stop hh D q0 qI qO q1 q2 p1 p2 out fun h' e hk ⟨o, ho, hc⟩ => ?_) (F.args_zip_next_1 _))))
  exact wpAny_bind (wpAny_isInstance (T := "StopIteration") (b := true) ⟨o, ho, hc⟩ isSubtype_stop (wpAny_pure (fin _ hk)))
end
end ZB

set_option Elab.async false
set_option linter.all false
set_option maxRecDepth 100000
set_option maxHeartbeats 4000000
/-! DL, behind DLZ: the making of a zip of mixed kinds; its turns; the rule for a loop. (printed by genz.py) -/
namespace ZB
open PySem PySem.Spec PyProof.Rows L2


abbrev h1LT (h : Heap) (l1 : Addr) : Heap := h.push { cls := .type "list_iterator", data := .fields #[.ref l1, .int 0 0] }
abbrev h2LT (h : Heap) (l1 l2 : Addr) : Heap := (h1LT h l1).push { cls := .type "tuple_iterator", data := .fields #[.ref l2, .int 0 0] }
abbrev h3LT (h : Heap) (l1 l2 : Addr) : Heap := (h2LT h l1 l2).push { cls := .type "tuple", data := .seq #[.ref h.objs.size, .ref (h1LT h l1).objs.size] }
abbrev h4LT (h : Heap) (l1 l2 : Addr) : Heap := (h3LT h l1 l2).push { cls := .type "tuple", data := .seq #[.none, .none] }
abbrev h5LT (h : Heap) (l1 l2 : Addr) : Heap := (h4LT h l1 l2).push { cls := .type "zip", data := .fields #[.none, .bool false, .bool false, .ref (h2LT h l1 l2).objs.size, .ref (h3LT h l1 l2).objs.size] }
theorem meetsLT (l1 l2 : Addr) (xs ys : Array Value) :
    Meets (Builtin.«zip.__new__» ⟨[.type "zip", .ref l1, .ref l2], []⟩) (fun _ R s => s.heap.IsList l1 xs ∧ s.heap.IsTuple l2 ys ∧
      R (.ok (.ret (.ref (h4LT s.heap l1 l2).objs.size))) { s with heap := h5LT s.heap l1 l2 }) :=
  .of_wp fun prog w A R s h => by
    obtain ⟨hp, g, d, tk, os⟩ := s; obtain ⟨hl1, hl2, h⟩ := h
    have hsub := sub_zip
    have hL1 : Heap.IsList (Shared.heap ⟨hp, g, d, tk, os⟩) l1 xs := hl1
    have hL2 : Heap.IsTuple (Shared.heap ⟨hp.push { cls := .type "list_iterator", data := .fields #[.ref l1, .int 0 0] }, g, d, tk, os⟩) l2 ys := Heap.IsTuple.push hl2 _
    wp_walk using wpAny_pyIter_list hL1, wpAny_pyIter_tuple hL2
    exact ⟨_, rfl, h⟩
theorem callLT {prog : Program} {w : World} {A : Around} {E : Value → Shared → Prop} {s : Shared} {l1 l2 : Addr} {xs ys : Array Value} {Q : Value → Shared → Prop} (hl1 : s.heap.IsList l1 xs) (hl2 : s.heap.IsTuple l2 ys)
    (h : ∀ h', IsZip h' (s.heap.objs.size + 4) (s.heap.objs.size + 2) (s.heap.objs.size + 3) .none → IsPair h' (s.heap.objs.size + 2) (.ref s.heap.objs.size) (.ref (s.heap.objs.size + 1)) →
      IsPair h' (s.heap.objs.size + 3) .none .none → h'.IsListIter s.heap.objs.size l1 0 → h'.IsTupleIter (s.heap.objs.size + 1) l2 0 → h'.objs.size = s.heap.objs.size + 5 →
      (∀ c o, s.heap.get? c = some o → h'.get? c = some o) → Q (.ref (s.heap.objs.size + 4)) { s with heap := h' }) :
    wpAny (model prog w) A (call (.type "zip") [.ref l1, .ref l2]) Q E s := by
  refine callType_new F.called_zip (by decide) (F.typeCall_zip_2 _ _) (F.newCall_zip_2 _ _) (fun obj => F.args_object_init_3 obj _ _) F.entry_zip_new
    (meetsLT l1 l2 xs ys) ⟨hl1, hl2, ?_⟩
  have z1 : (h1LT s.heap l1).objs.size = s.heap.objs.size + 1 := Heap.size_push ..
  have z2 : (h2LT s.heap l1 l2).objs.size = s.heap.objs.size + 2 := by rw [Heap.size_push, z1]
  have z3 : (h3LT s.heap l1 l2).objs.size = s.heap.objs.size + 3 := by rw [Heap.size_push, z2]
  have z4 : (h4LT s.heap l1 l2).objs.size = s.heap.objs.size + 4 := by rw [Heap.size_push, z3]
  have z5 : (h5LT s.heap l1 l2).objs.size = s.heap.objs.size + 5 := by rw [Heap.size_push, z4]
  have g5 : (h5LT s.heap l1 l2).get? (h4LT s.heap l1 l2).objs.size = some _ := Heap.get?_push_size _ rfl
  have g4 : (h5LT s.heap l1 l2).get? (h3LT s.heap l1 l2).objs.size = some _ := Heap.get?_push_of_some _ (Heap.get?_push_size _ rfl)
  have g3 : (h5LT s.heap l1 l2).get? (h2LT s.heap l1 l2).objs.size = some _ := Heap.get?_push_of_some _ (Heap.get?_push_of_some _ (Heap.get?_push_size _ rfl))
  have g2 : (h5LT s.heap l1 l2).get? (h1LT s.heap l1).objs.size = some _ := Heap.get?_push_of_some _ (Heap.get?_push_of_some _ (Heap.get?_push_of_some _ (Heap.get?_push_size _ rfl)))
  have g1 : (h5LT s.heap l1 l2).get? s.heap.objs.size = some _ := Heap.get?_push_of_some _ (Heap.get?_push_of_some _ (Heap.get?_push_of_some _ (Heap.get?_push_of_some _ (Heap.get?_push_size _ rfl))))
  show _ ∧ _
  rw [z2, z3, z4] at g5
  rw [z1, z2] at g3
  rw [z3] at g4
  rw [z1] at g2
  rw [z4]
  exact ⟨⟨_, g5, rfl⟩, h _ g5 g3 g4 ⟨_, g1, rfl, rfl⟩ ⟨_, g2, rfl, rfl⟩ z5 fun c o x =>
    Heap.get?_push_of_some _ (Heap.get?_push_of_some _ (Heap.get?_push_of_some _ (Heap.get?_push_of_some _ (Heap.get?_push_of_some _ x))))⟩


abbrev h1TL (h : Heap) (l1 : Addr) : Heap := h.push { cls := .type "tuple_iterator", data := .fields #[.ref l1, .int 0 0] }
abbrev h2TL (h : Heap) (l1 l2 : Addr) : Heap := (h1TL h l1).push { cls := .type "list_iterator", data := .fields #[.ref l2, .int 0 0] }
abbrev h3TL (h : Heap) (l1 l2 : Addr) : Heap := (h2TL h l1 l2).push { cls := .type "tuple", data := .seq #[.ref h.objs.size, .ref (h1TL h l1).objs.size] }
abbrev h4TL (h : Heap) (l1 l2 : Addr) : Heap := (h3TL h l1 l2).push { cls := .type "tuple", data := .seq #[.none, .none] }
abbrev h5TL (h : Heap) (l1 l2 : Addr) : Heap := (h4TL h l1 l2).push { cls := .type "zip", data := .fields #[.none, .bool false, .bool false, .ref (h2TL h l1 l2).objs.size, .ref (h3TL h l1 l2).objs.size] }
theorem meetsTL (l1 l2 : Addr) (xs ys : Array Value) :
    Meets (Builtin.«zip.__new__» ⟨[.type "zip", .ref l1, .ref l2], []⟩) (fun _ R s => s.heap.IsTuple l1 xs ∧ s.heap.IsList l2 ys ∧
      R (.ok (.ret (.ref (h4TL s.heap l1 l2).objs.size))) { s with heap := h5TL s.heap l1 l2 }) :=
  .of_wp fun prog w A R s h => by
    obtain ⟨hp, g, d, tk, os⟩ := s; obtain ⟨hl1, hl2, h⟩ := h
    have hsub := sub_zip
    have hL1 : Heap.IsTuple (Shared.heap ⟨hp, g, d, tk, os⟩) l1 xs := hl1
    have hL2 : Heap.IsList (Shared.heap ⟨hp.push { cls := .type "tuple_iterator", data := .fields #[.ref l1, .int 0 0] }, g, d, tk, os⟩) l2 ys := Heap.IsList.push hl2 _
    wp_walk using wpAny_pyIter_tuple hL1, wpAny_pyIter_list hL2
    exact ⟨_, rfl, h⟩
theorem callTL {prog : Program} {w : World} {A : Around} {E : Value → Shared → Prop} {s : Shared} {l1 l2 : Addr} {xs ys : Array Value} {Q : Value → Shared → Prop} (hl1 : s.heap.IsTuple l1 xs) (hl2 : s.heap.IsList l2 ys)
    (h : ∀ h', IsZip h' (s.heap.objs.size + 4) (s.heap.objs.size + 2) (s.heap.objs.size + 3) .none → IsPair h' (s.heap.objs.size + 2) (.ref s.heap.objs.size) (.ref (s.heap.objs.size + 1)) →
      IsPair h' (s.heap.objs.size + 3) .none .none → h'.IsTupleIter s.heap.objs.size l1 0 → h'.IsListIter (s.heap.objs.size + 1) l2 0 → h'.objs.size = s.heap.objs.size + 5 →
      (∀ c o, s.heap.get? c = some o → h'.get? c = some o) → Q (.ref (s.heap.objs.size + 4)) { s with heap := h' }) :
    wpAny (model prog w) A (call (.type "zip") [.ref l1, .ref l2]) Q E s := by
  refine callType_new F.called_zip (by decide) (F.typeCall_zip_2 _ _) (F.newCall_zip_2 _ _) (fun obj => F.args_object_init_3 obj _ _) F.entry_zip_new
    (meetsTL l1 l2 xs ys) ⟨hl1, hl2, ?_⟩
  have z1 : (h1TL s.heap l1).objs.size = s.heap.objs.size + 1 := Heap.size_push ..
  have z2 : (h2TL s.heap l1 l2).objs.size = s.heap.objs.size + 2 := by rw [Heap.size_push, z1]
  have z3 : (h3TL s.heap l1 l2).objs.size = s.heap.objs.size + 3 := by rw [Heap.size_push, z2]
  have z4 : (h4TL s.heap l1 l2).objs.size = s.heap.objs.size + 4 := by rw [Heap.size_push, z3]
  have z5 : (h5TL s.heap l1 l2).objs.size = s.heap.objs.size + 5 := by rw [Heap.size_push, z4]
  have g5 : (h5TL s.heap l1 l2).get? (h4TL s.heap l1 l2).objs.size = some _ := Heap.get?_push_size _ rfl
  have g4 : (h5TL s.heap l1 l2).get? (h3TL s.heap l1 l2).objs.size = some _ := Heap.get?_push_of_some _ (Heap.get?_push_size _ rfl)
  have g3 : (h5TL s.heap l1 l2).get? (h2TL s.heap l1 l2).objs.size = some _ := Heap.get?_push_of_some _ (Heap.get?_push_of_some _ (Heap.get?_push_size _ rfl))
  have g2 : (h5TL s.heap l1 l2).get? (h1TL s.heap l1).objs.size = some _ := Heap.get?_push_of_some _ (Heap.get?_push_of_some _ (Heap.get?_push_of_some _ (Heap.get?_push_size _ rfl)))
  have g1 : (h5TL s.heap l1 l2).get? s.heap.objs.size = some _ := Heap.get?_push_of_some _ (Heap.get?_push_of_some _ (Heap.get?_push_of_some _ (Heap.get?_push_of_some _ (Heap.get?_push_size _ rfl))))
  show _ ∧ _
  rw [z2, z3, z4] at g5
  rw [z1, z2] at g3
  rw [z3] at g4
  rw [z1] at g2
  rw [z4]
  exact ⟨⟨_, g5, rfl⟩, h _ g5 g3 g4 ⟨_, g1, rfl, rfl⟩ ⟨_, g2, rfl, rfl⟩ z5 fun c o x =>
    Heap.get?_push_of_some _ (Heap.get?_push_of_some _ (Heap.get?_push_of_some _ (Heap.get?_push_of_some _ (Heap.get?_push_of_some _ x))))⟩


/-- a list (t: a tuple) of the abstract heap -/
def SqX (K : PySem.W.Frag) (H : Hp) (t : Bool) (a : Addr) (xs : List V) : Prop := match t with
  | true => SqT K H a xs
  | false => SqL K H a xs
theorem sqx {X : L2.Cx} {pins : List (Addr × Obj)} {σ : L2.St} {H : Hp} {s : Shared} {t : Bool} {a : Addr} {xs : List V} (I : L2.Inv X pins σ H s) (h : SqX X.K H t a xs) : ∃ its, L2.Vals xs its ∧ Sq2 t s.heap a its.toArray ∧ a < s.heap.objs.size := by
  cases t
  · obtain ⟨its, rv, p, _⟩ := I.list h
    exact ⟨its, rv, p.isList, p.lt⟩
  · obtain ⟨its, rv, p, _⟩ := I.tuple h
    obtain ⟨o, ho, _⟩ := id p
    exact ⟨its, rv, p, Heap.lt_size ho⟩
theorem sqx_inj {X : L2.Cx} {pins : List (Addr × Obj)} {σ : L2.St} {H : Hp} {s : Shared} {t : Bool} {a : Addr} {xs ys : List V} (I : L2.Inv X pins σ H s) (h : SqX X.K H t a xs) (h' : SqX X.K H t a ys) : xs = ys := by
  cases t
  · exact I.list_inj h h'
  · exact I.tuple_inj h h'
def ItzX (K : PySem.W.Frag) (t u : Bool) (a b : Addr) : It :=
  ⟨fun i H => ∃ (xs ys : List V) (x y : V), SqX K H t a xs ∧ SqX K H u b ys ∧ xs[i]? = some x ∧ ys[i]? = some y,
    fun i H v H' => ∃ T x y, v = .ref T ∧ H T = none ∧ H' = upd H T (.tup [x, y]) ∧ (∀ xs, SqX K H t a xs → xs[i]? = some x) ∧ ∀ ys, SqX K H u b ys → ys[i]? = some y,
    fun i H => ∃ xs ys : List V, SqX K H t a xs ∧ SqX K H u b ys ∧ (xs.length ≤ i ∨ ys.length ≤ i)⟩
theorem turn_zipX {P : Program} {w : World} {K : PySem.W.Frag} {t u : Bool} {elts : List Expr} {kk : Nat} {tpos : Pos} {a b z TI TO i1 i2 : Addr} (D : ZipApart z TI TO i1 i2 a b) :
    Turn P w K (.Tuple elts kk tpos) (ItzX K t u a b) [z, TI, TO, i1, i2] z (fun i h => IsZip h z TI TO .none ∧ IsPair h TI (.ref i1) (.ref i2) ∧ (∃ x y, IsPair h TO x y) ∧ It2 t h i1 a i ∧ It2 u h i2 b i) where
  mem := by simp
  obj := fun i h st c hc => by
    obtain ⟨hz, hTI, ⟨x, y, hTO⟩, q1, q2⟩ := st
    obtain ⟨o1, e1, d1⟩ := q1.obj
    obtain ⟨o2, e2, d2⟩ := q2.obj
    have e' : c = z ∨ c = TI ∨ c = TO ∨ c = i1 ∨ c = i2 := by simpa using hc
    rcases e' with q | q | q | q | q
    · rw [q]; exact ⟨_, hz, fun v q => nomatch q⟩
    · rw [q]; exact ⟨_, hTI, fun v q => nomatch q⟩
    · rw [q]; exact ⟨_, hTO, fun v q => nomatch q⟩
    · rw [q]; exact ⟨o1, e1, fun v q => by rw [d1] at q; cases q⟩
    · rw [q]; exact ⟨o2, e2, fun v q => by rw [d2] at q; cases q⟩
  keep := fun i h h' st k => by
    obtain ⟨hz, hTI, ⟨x, y, hTO⟩, h1, h2⟩ := st
    exact ⟨k z (by simp) _ hz, k TI (by simp) _ hTI, ⟨x, y, k TO (by simp) _ hTO⟩, h1.cpy fun o q => k i1 (by simp) o q, h2.cpy fun o q => k i2 (by simp) o q⟩
  item := by
    intro X hP hw hK hc i pins s σ H E I hf st hg
    subst hP hw hK
    obtain ⟨hz, hTI, ⟨x0, y0, hTO⟩, h1, h2⟩ := st
    obtain ⟨xs, ys, x, y, hqx, hqy, hx, hy⟩ := hg
    obtain ⟨its, rv, p, _⟩ := sqx I hqx
    obtain ⟨its2, rv2, p2, _⟩ := sqx I hqy
    obtain ⟨v, hu, ru⟩ := rv.get hx
    obtain ⟨v2, hu2, ru2⟩ := rv2.get hy
    have hzl : z < s.heap.objs.size := Heap.lt_size hz
    refine py_next D hz hTI hTO h1 h2 p p2 (x := v) (y := v2) (by simpa using hu) (by simpa using hu2) fun h' z' TO' h1' h2' hT hsz hk => ?_
    refine ⟨_, rfl, wpAny_letOwnedTupleGo_zip (s := { s with heap := h' }) z' fun h'' z'' sb => ?_⟩
    have hT2 : h''.get? s.heap.objs.size = some { cls := .type "tuple", data := .seq #[v, v2] } := (sb.2 _ (Nat.ne_of_gt hzl)).trans hT
    have new : ObjOk X.prog X.w (upd H s.heap.objs.size (.tup [x, y])) h'' s.heap.objs.size (.tup [x, y]) :=
      ⟨by show 2 ≤ sizeLine; decide, [v, v2], .cons ru (.cons ru2 .nil), ⟨_, hT2, rfl, _, rfl⟩⟩
    have I1 : Inv X pins σ (upd H s.heap.objs.size (.tup [x, y])) { s with heap := h'' } :=
      I.turnedNew (t' := s.toks) (ch := [z, TI, TO, i1, i2]) (fun c o hb q => (sb.2 c (fun q' => hb (by simp [q']))).trans (hk c o (fun q' => hb (by simp [q'])) (fun q' => hb (by simp [q'])) (fun q' => hb (by simp [q'])) (fun q' => hb (by simp [q'])) q)) hf (Nat.le_refl _) new
    refine ⟨.ref s.heap.objs.size, _, I1, rfl, ⟨_, x, y, rfl, I.hok.fresh (Nat.le_refl _), rfl, fun l hl => by rw [sqx_inj I hl hqx]; exact hx, fun l hl => by rw [sqx_inj I hl hqy]; exact hy⟩, ⟨z'', ?_, ⟨v, v2, ?_⟩, ?_, ?_⟩, fun c hcm => ?_⟩
    · exact (sb.2 _ D.TIz).trans (hk _ _ D.TIz D.TITO D.TIi1 D.TIi2 hTI)
    · exact (sb.2 _ D.TOz).trans TO'
    · exact h1'.cpy fun o q => (sb.2 _ D.i1z).trans q
    · exact h2'.cpy fun o q => (sb.2 _ D.i2z).trans q
    · have hlt : c < s.heap.objs.size := by
        have e' : c = z ∨ c = TI ∨ c = TO ∨ c = i1 ∨ c = i2 := by simpa using hcm
        rcases e' with q | q | q | q | q
        · rw [q]; exact hzl
        · rw [q]; exact Heap.lt_size hTI
        · rw [q]; exact Heap.lt_size hTO
        · rw [q]; obtain ⟨_, e1, _⟩ := h1.obj; exact Heap.lt_size e1
        · rw [q]; obtain ⟨_, e2, _⟩ := h2.obj; exact Heap.lt_size e2
      rw [upd_ne (Nat.ne_of_lt hlt)]
      exact (hf c hcm).1
  done := by
    intro X hP hw hK hc i pins s σ H E I hf st hg
    subst hP hw hK
    obtain ⟨hz, hTI, ⟨x0, y0, hTO⟩, h1, h2⟩ := st
    obtain ⟨xs, ys, hqx, hqy, hend⟩ := hg
    obtain ⟨its, rv, p, _⟩ := sqx I hqx
    obtain ⟨its2, rv2, p2, _⟩ := sqx I hqy
    have l1 := rv.length
    have l2 := rv2.length
    have he : its.toArray[i]? = none ∨ its2.toArray[i]? = none := by
      rcases hend with q | q
      · exact .inl (by simp; omega)
      · exact .inr (by simp; omega)
    exact py_stop (I.ok.hd hc) D hz hTI hTO h1 h2 p p2 he fun h' hk => ⟨rfl, I.turnedL (t' := s.toks) (ch := [z, TI, TO, i1, i2]) (fun c o hb q =>
      hk c o (fun q' => hb (by simp [q'])) (fun q' => hb (by simp [q'])) (fun q' => hb (by simp [q'])) (fun q' => hb (by simp [q'])) q) hf⟩
  self := fun A i s Q E st h => wpAny_pyIter_zip st.1 h
theorem callX {prog : Program} {w : World} {A : Around} {E : Value → Shared → Prop} {s : Shared} {t u : Bool} {l1 l2 : Addr} {xs ys : Array Value} {Q : Value → Shared → Prop} (hl1 : Sq2 t s.heap l1 xs) (hl2 : Sq2 u s.heap l2 ys)
    (h : ∀ h', IsZip h' (s.heap.objs.size + 4) (s.heap.objs.size + 2) (s.heap.objs.size + 3) .none → IsPair h' (s.heap.objs.size + 2) (.ref s.heap.objs.size) (.ref (s.heap.objs.size + 1)) →
      IsPair h' (s.heap.objs.size + 3) .none .none → It2 t h' s.heap.objs.size l1 0 → It2 u h' (s.heap.objs.size + 1) l2 0 → h'.objs.size = s.heap.objs.size + 5 →
      (∀ c o, s.heap.get? c = some o → h'.get? c = some o) → Q (.ref (s.heap.objs.size + 4)) { s with heap := h' }) :
    wpAny (model prog w) A (call (.type "zip") [.ref l1, .ref l2]) Q E s := by
  cases t
  · cases u
    · exact call_zip_2 hl1 hl2 h
    · exact callLT hl1 hl2 h
  · cases u
    · exact callTL hl1 hl2 h
    · exact RZ.call_zipT hl1 hl2 h
def iZipX (K : PySem.W.Frag) (ta : TA) : TI := fun σ H R => ta σ H fun vs H1 => ∃ a b t u xs ys, vs = [.ref a, .ref b] ∧ SqX K H1 t a xs ∧ SqX K H1 u b ys ∧ R (ItzX K t u a b) H1
theorem pi_zipX {X : Cx} {e e2 : Expr} {ta : TA} {p pos tpos : Pos} {elts : List Expr} {kk : Nat} (hg : Gl X "zip") (hm : X.mg "zip" = none) (ha : PA X [e, e2] ta)
    (hs : starEach [e, e2] X.env = (false, eval e X.env) :: starEach [e2] X.env := by rfl) (hpl : (backTo pos (starEach [e2] X.env)).any (·.1) = false := by rfl) :
    PI X (.Tuple elts kk tpos) (.Call (.Name "zip" p) [e, e2] [] pos) (iZipX X.K ta) := by
  refine ⟨fun pins s σ H R I h => ?_⟩
  refine Call_ (ld_blt I hg hm PyProof.Rows.boot_zip (PyProof.Rows.callWith_type1 (thn (ha.run pos pins s σ H _ I h) fun us s1 ⟨vs, H1, I1, r1, q1⟩ => ?_) hs hpl))
  obtain ⟨a, b, t, u, xs, ys, ex, hqx, hqy, q⟩ := q1
  subst ex
  cases r1 with
  | cons r rr =>
    cases rr with
    | cons r' rr =>
      cases rr
      cases r
      cases r'
      have fresh5 : ∀ c, c ∈ [s1.heap.objs.size + 4, s1.heap.objs.size + 2, s1.heap.objs.size + 3, s1.heap.objs.size, s1.heap.objs.size + 1] → FpOk X pins H1 c := fun c hcm => by
        have e' : c = s1.heap.objs.size + 4 ∨ c = s1.heap.objs.size + 2 ∨ c = s1.heap.objs.size + 3 ∨ c = s1.heap.objs.size ∨ c = s1.heap.objs.size + 1 := by simpa using hcm
        have hle : s1.heap.objs.size ≤ c := by
          rcases e' with z | z | z | z | z
          · rw [z]; exact Nat.le_add_right _ _
          · rw [z]; exact Nat.le_add_right _ _
          · rw [z]; exact Nat.le_add_right _ _
          · rw [z]; exact Nat.le_refl _
          · rw [z]; exact Nat.le_add_right _ _
        exact I1.fpOk hle (I1.hok.fresh hle)
      obtain ⟨its, rv, p1, lt1⟩ := sqx I1 hqx
      obtain ⟨its2, rv2, p2, lt2⟩ := sqx I1 hqy
      refine callX p1 p2 fun h' hz hTI hTO h1 h2 hsz hk => wpAny_pyIter_zip hz ?_
      have I2 : Inv X pins σ H1 { s1 with heap := h' } := I1.kept (t' := s1.toks) hk
      exact ⟨s1.heap.objs.size + 4, [s1.heap.objs.size + 4, s1.heap.objs.size + 2, s1.heap.objs.size + 3, s1.heap.objs.size, s1.heap.objs.size + 1], _, _, H1, rfl, I2, turn_zipX (PySem.W.ktu_apart s1.heap.objs.size a b lt1 lt2), ⟨hz, hTI, ⟨_, _, hTO⟩, h1, h2⟩, fresh5, q⟩
end ZB

set_option Elab.async false
set_option linter.all false
set_option maxRecDepth 100000
set_option maxHeartbeats 4000000
/-! DL, behind DLZ2: sorted of a list or a tuple of ints, any number of them. -/
namespace ZB
open PySem PySem.Spec PyProof.Rows L2
section
variable {prog : Program} {w : World} {A : Around} {E : Value → Shared → Prop} {s : Shared}
theorem collect_x {t : Bool} {l : Addr} {vs : List Value} {Q : List Value → Shared → Prop} (hl : Sq2 t s.heap l vs.toArray)
    (h : Q vs { s with heap := (s.heap.push (seqObj "list" #[] 0)).update s.heap.objs.size (Obj.mapSeq (· ++ vs.toArray)) }) (hsz : vs.length ≤ sizeLine) :
    wpAny (model prog w) A (collect (.ref l)) Q E s := by
  cases t
  · exact collect_list hl h hsz
  · obtain ⟨o, ho, hc, n, hd⟩ := id (show s.heap.IsTuple l vs.toArray from hl)
    unfold collect
    refine wpAny_bind (wpAny_runValue (codeAny_builtin entry_proto_collect' ?_))
    show wpAny _ _ (do again (.builtin "list.__iadd__" ⟨[← newList [], .ref l], []⟩)) _ _ s
    refine wpAny_bind (wpAny_newList (wpAny_pure ⟨Code.quiet_builtin _ (by decide +kernel), codeAny_builtin entry_list_iadd' ?_⟩))
    show wpAny _ _ (Builtin.List.listExtendWith (.ref s.heap.objs.size) (.ref l) (.ref s.heap.objs.size)) _ _ { s with heap := s.heap.push (seqObj "list" #[] 0) }
    unfold Builtin.List.listExtendWith
    have ho' : (s.heap.push (seqObj "list" #[] 0)).get? l = some o := Heap.get?_push_of_some _ ho
    refine wpAny_bind (wpAny_typeOf (T := "tuple") ⟨o, ho', hc⟩ ?_)
    have ht : (Value.type "tuple" == Value.type "tuple") = true := by rfl
    rw [if_pos (by rw [ht]; simp)]
    refine wpAny_bind (listItems_at ho' hd ?_)
    refine wpAny_bind (listItems_at (xs := #[]) (n := 0) (Heap.get?_push_size _ rfl) rfl ?_)
    rw [if_neg (by simp)]
    refine wpAny_bind (listUpdate_at (xs := #[]) (n := 0) (Heap.get?_push_size _ rfl) rfl ?_ (Nat.zero_le _) (by show (#[] ++ vs.toArray).size ≤ sizeLine + 1; simp only [Array.size_append, List.size_toArray, List.length_nil]; omega))
    refine wpAny_pure ?_
    show wpAny (model prog w) A (do
        let o ← load s.heap.objs.size
        match o.data with
        | .seq xs _ => pure xs.toList
        | _ => unsupported "internal:collect") Q E { s with heap := (s.heap.push (seqObj "list" #[] 0)).update s.heap.objs.size (Obj.mapSeq (· ++ vs.toArray)) }
    refine wpAny_bind (wpAny_load (get?_update_seq (Heap.get?_push_size _ rfl) _) ?_)
    show wpAny _ _ (pure ((#[] : Array Value) ++ vs.toArray).toList) Q E _
    rw [show ((#[] : Array Value) ++ vs.toArray).toList = vs by simp]
    exact wpAny_pure h
open SrtO in
theorem sorted_x {t : Bool} {l : Addr} {vs : List Value} {ltv : Value → Value → Bool} {Q : Value → Shared → Prop} (O : Swo ltv) (hl : Sq2 t s.heap l vs.toArray) (hz : vs.length ≤ sizeLine)
    (hS : 2 ≤ vs.length → ∀ (h₁ : Heap) (a : Addr), h₁.get? a = some (seqObj "list" vs.toArray 0) → (∀ b o, s.heap.get? b = some o → b ≠ a ∧ h₁.get? b = some o) → SortableO prog w A.in1.in1 { s with heap := h₁ } a vs ltv)
    (h : ∀ out : List Value, Srtd ltv out → Stb ltv out vs → Q (.ref (s.heap.objs.size + 1)) { s with heap := sortedAll s.heap vs out.toArray }) :
    wpAny (model prog w) A (call (.builtin "sorted") [.ref l]) Q E s := by
  refine Calls.call_function_entry kind_sorted plain_sorted entry_sorted (args_sorted1 _) ?_
  unfold Builtin.«sorted»
  refine wpAny_bind (m := checkCount "sorted" 1 1 _) (wpAny_pure ?_)
  refine wpAny_bind (collect_x hl ?_ hz)
  refine wpAny_bind (wpAny_newList ?_ hz)
  have hsz : ((s.heap.push (seqObj "list" #[] 0)).update s.heap.objs.size (Obj.mapSeq (· ++ vs.toArray))).objs.size = s.heap.objs.size + 1 := by
    rw [Heap.size_update, size_push']
  have hoL : (((s.heap.push (seqObj "list" #[] 0)).update s.heap.objs.size (Obj.mapSeq (· ++ vs.toArray))).push (seqObj "list" vs.toArray 0)).get? (s.heap.objs.size + 1) = some (seqObj "list" vs.toArray 0) := by
    rw [← hsz]; exact Heap.get?_push_size _ rfl
  have keep : ∀ b o, s.heap.get? b = some o → b ≠ s.heap.objs.size + 1 ∧ (((s.heap.push (seqObj "list" #[] 0)).update s.heap.objs.size (Obj.mapSeq (· ++ vs.toArray))).push (seqObj "list" vs.toArray 0)).get? b = some o := fun b o q => by
    have hlt : b < s.heap.objs.size := Heap.lt_size q
    refine ⟨Nat.ne_of_lt (Nat.lt_succ_of_lt hlt), Heap.get?_push_of_some _ ?_⟩
    rw [Heap.get?_update_ne _ _ _ _ (Nat.ne_of_lt hlt)]
    exact Heap.get?_push_of_some _ q
  show wpAny _ _ _ _ _ { s with heap := ((s.heap.push (seqObj "list" #[] 0)).update s.heap.objs.size (Obj.mapSeq (· ++ vs.toArray))).push (seqObj "list" vs.toArray 0) }
  rw [hsz]
  refine wpAny_bind (wpAny_holding (wpAny_call_entry slot_list_sort ⟨_, hoL, rfl⟩ entry_list_sort (list_sort_ord O hoL hz (fun h2 => hS h2 _ _ hoL keep) fun out hs hb => ⟨_, rfl, ?_⟩) (args_list_sort _)))
  exact wpAny_pure ⟨_, rfl, h out hs hb⟩
end
/-- sorted(xs), ints, of a list or a tuple -/
def rSortX (K : PySem.W.Frag) : List V → Hp → VK → Prop := fun vs H Q => ∃ (a : Addr) (t : Bool) (ns : List Int), vs = [V.ref a] ∧ SqX K H t a (ns.map V.int) ∧
  ∀ (ns' : List Int) (p : Addr), ns'.Perm ns → ns'.Pairwise (· ≤ ·) → H p = none → Q (.ref p) (upd H p (.lst (ns'.map V.int)))
theorem cr_sortX {X : L2.Cx} : CallR X (.builtin "sorted") (rSortX X.K) := by
  intro pins s σ H vs us Q I r h
  obtain ⟨a, t, ns, rfl, hs, q⟩ := h
  obtain ⟨its, rv, hl, _⟩ := sqx I hs
  have hz : (ns.map V.int).length ≤ sizeLine := by
    cases t
    · obtain ⟨_, _, _, z⟩ := I.list hs; exact z
    · obtain ⟨_, _, _, z⟩ := I.tuple hs; exact z
  rw [Vals.ref1 r]
  have hi := rv.ints
  refine sorted_x SrtO.swo_int hl (by rw [← rv.length]; exact hz) (fun h2 h₁ a' _ _ => SrtO.ints_sortable hi h2) fun out h1 h2 => ?_
  obtain ⟨k1, k2, k3⟩ := SrtO.ints_out hi h1 h2
  obtain ⟨ep, he'⟩ := PyProof.Rows.sortedAll_at s.heap its out.toArray
  have hlen : ((out.map SrtO.iv).map V.int).length ≤ sizeLine := by
    rw [List.length_map, k2.length_eq]
    rw [List.length_map] at hz
    exact hz
  exact ⟨.ref _, upd H (s.heap.objs.size + 1) (.lst ((out.map SrtO.iv).map V.int)), I.laid (t' := s.toks) (fun _ _ => PyProof.Rows.sortedAll_old) (Nat.le_succ _) ⟨hlen, out, ep, vals_of_ints k1, he'⟩, rfl, q _ _ k2 k3 (I.hok.fresh (Nat.le_succ _))⟩
end ZB

set_option Elab.async false
set_option linter.all false
set_option maxRecDepth 100000
set_option maxHeartbeats 4000000
/-! DL, part 7: what is walked: lists, tuples, ranges, enumerate, zip. -/
namespace DL
open PySem PySem.Spec PyProof.Rows L2

/-- a list or a tuple -/
def SqA (K : PySem.W.Frag) (H : Hp) (b : Bool) (a : Addr) (xs : List V) : Prop := if b then SqT K H a xs else SqL K H a xs
def Its2 (K : PySem.W.Frag) (b : Bool) (a : Addr) (c : Int) : It :=
  ⟨fun i H => ∃ (xs : List V) (x : V), SqA K H b a xs ∧ xs[i]? = some x, fun i H v H' => ∃ T x, v = .ref T ∧ H T = none ∧ H' = upd H T (.tup [.int (c + (i : Nat)), x]) ∧ ∀ xs, SqA K H b a xs → xs[i]? = some x, fun i H => ∃ xs : List V, SqA K H b a xs ∧ xs.length = i⟩
def IterAt (h : Heap) (b : Bool) (it a : Addr) (i : Nat) : Prop := if b then h.IsTupleIter it a i else h.IsListIter it a i
theorem IterAt.get {h : Heap} {b : Bool} {it a : Addr} {i : Nat} (st : IterAt h b it a i) : ∃ o, h.get? it = some o ∧ ∀ v, o.data ≠ .cell v := by
  cases b with
  | true => obtain ⟨o, ho, hc, hd⟩ := st; exact ⟨o, ho, fun v q => by rw [hd] at q; cases q⟩
  | false => obtain ⟨o, ho, hc, hd⟩ := st; exact ⟨o, ho, fun v q => by rw [hd] at q; cases q⟩
theorem IterAt.at {h h' : Heap} {b : Bool} {it a : Addr} {i : Nat} (st : IterAt h b it a i) (k : ∀ o, h.get? it = some o → h'.get? it = some o) : IterAt h' b it a i := by
  cases b with
  | true => exact Heap.IsTupleIter.at st k
  | false => exact Heap.IsListIter.at st k
def SeqIs (h : Heap) (b : Bool) (a : Addr) (items : Array Value) : Prop := if b then h.IsTuple a items else h.IsList a items
theorem drawsA {prog : Program} {w : World} {A : Around} (hh : A.handled = none) (b : Bool) (it a : Addr) (hne : a ≠ it) (items : Array Value) :
    Draws prog w A it [it, a] items.size (fun i v => items[i]? = some v) (fun i h => IterAt h b it a i ∧ SeqIs h b a items) := by
  cases b with
  | true => exact Draws.tuple hh it a hne items
  | false => exact Draws.list hh it a hne items
theorem sqA_vals {X : Cx} {pins : List (Addr × Obj)} {σ : L2.St} {H : Hp} {s : Shared} {b : Bool} {a : Addr} {xs : List V} (I : Inv X pins σ H s) (h : SqA X.K H b a xs) : ∃ its, Vals xs its ∧ SeqIs s.heap b a its.toArray ∧ a < s.heap.objs.size := by
  cases b with
  | true =>
    obtain ⟨its, rv, p, _⟩ := I.tuple h
    exact ⟨its, rv, p, by obtain ⟨o, e, _⟩ := p; exact Heap.lt_size e⟩
  | false =>
    obtain ⟨its, rv, p, _⟩ := I.list h
    exact ⟨its, rv, p.isList, p.lt⟩
theorem sqA_inj {X : Cx} {pins : List (Addr × Obj)} {σ : L2.St} {H : Hp} {s : Shared} {b : Bool} {a : Addr} {xs ys : List V} (I : Inv X pins σ H s) (h : SqA X.K H b a xs) (h2 : SqA X.K H b a ys) : xs = ys := by
  cases b with
  | true => exact I.tuple_inj h h2
  | false => exact I.list_inj h h2

theorem turn_enumA {P : Program} {w : World} {K : PySem.W.Frag} {elts : List Expr} {kk : Nat} {tpos : Pos} (b : Bool) (c : Int) (a e it : Addr) :
    Turn P w K (.Tuple elts kk tpos) (Its2 K b a c) [e, it] e (fun i h => (∃ old, IsEnum h e it (c + ((i : Nat) : Int)) old) ∧ IterAt h b it a i ∧ e ≠ it ∧ a ≠ it ∧ e ≠ a) where
  mem := by simp
  obj := fun i h st d hd => by
    obtain ⟨⟨old, he⟩, hi, _⟩ := st
    have e' : d = e ∨ d = it := by simpa using hd
    rcases e' with z | z
    · rw [z]; exact ⟨_, he, fun v q => nomatch q⟩
    · rw [z]; exact hi.get
  keep := fun i h h' st k => let ⟨⟨old, he⟩, hi, hne⟩ := st; ⟨⟨old, k e (by simp) _ he⟩, hi.at fun o q => k it (by simp) o q, hne⟩
  item := by
    intro X hP hw hK hc i pins s σ H E I hf st hg
    subst hP hw hK
    obtain ⟨⟨old, he⟩, hit, hne, hna, hea⟩ := st
    obtain ⟨xs, x, hq, hx⟩ := hg
    obtain ⟨its, rv, p, hz⟩ := sqA_vals I hq
    obtain ⟨u, hu, ru⟩ := rv.get hx
    have hel : e < s.heap.objs.size := Heap.lt_size he
    have hil : it < s.heap.objs.size := by obtain ⟨_, q, _⟩ := hit.get; exact Heap.lt_size q
    have hlt : i < its.toArray.size := by
      have := (List.getElem?_eq_some_iff.mp hu).1
      simpa using this
    refine wpAny_pyNext_enum_itemC (drawsA (prog := X.prog) (w := X.w) (A := X.A.in1) (I.ok.hd hc) b it a hna its.toArray) he ⟨hit, p⟩ hlt hne (by simp [hne, hea]) fun y h' tk hy ho hit' hT hsz hk => ?_
    have hyu : y = u := by
      have hy : its.toArray[i]? = some y := hy
      rw [List.getElem?_toArray, hu] at hy; cases hy; rfl
    subst hyu
    refine ⟨_, rfl, wpAny_letOwnedTupleGo_enum (s := { s with heap := h', toks := tk + 1 }) ho fun h'' he' sb => ?_⟩
    have hT2 : h''.get? s.heap.objs.size = some { cls := .type "tuple", data := .seq #[.int (c + (i : Nat)) tk, y] } := (sb.2 _ (Nat.ne_of_gt hel)).trans hT
    have new : ObjOk X.prog X.w (upd H s.heap.objs.size (.tup [.int (c + (i : Nat)), x])) h'' s.heap.objs.size (.tup [.int (c + (i : Nat)), x]) :=
      ⟨by show 2 ≤ sizeLine; decide, [.int (c + (i : Nat)) tk, y], .cons ⟨_, rfl⟩ (.cons ru .nil), ⟨_, hT2, rfl, _, rfl⟩⟩
    have I1 : Inv X pins σ (upd H s.heap.objs.size (.tup [.int (c + (i : Nat)), x])) { s with heap := h'', toks := tk + 1 } :=
      I.turnedNew (ch := [e, it]) (fun d ob hb q => (sb.2 d (fun z => hb (by simp [z]))).trans (hk d ob (fun z => hb (by simp [z])) (fun z => hb (by simp [z])) q)) hf (Nat.le_refl _) new
    refine ⟨.ref s.heap.objs.size, _, I1, rfl, ⟨_, x, rfl, I.hok.fresh (Nat.le_refl _), rfl, fun ys hy => by rw [sqA_inj I hy hq]; exact hx⟩, ⟨⟨y, ?_⟩, hit'.1.at fun o q => (sb.2 it (Ne.symm hne)).trans q, hne, hna, hea⟩, fun d hd => ?_⟩
    · have e1 : c + ((i + 1 : Nat) : Int) = c + (i : Int) + 1 := by omega
      rw [e1]; exact he'
    · have hb' : d < s.heap.objs.size := by
        have e' : d = e ∨ d = it := by simpa using hd
        rcases e' with z | z
        · rw [z]; exact hel
        · rw [z]; exact hil
      rw [upd_ne (Nat.ne_of_lt hb')]
      exact (hf d hd).1
  done := by
    intro X hP hw hK hc i pins s σ H E I hf st hg
    subst hP hw hK
    obtain ⟨⟨old, he⟩, hit, hne, hna, hea⟩ := st
    obtain ⟨xs, hq, hx⟩ := hg
    obtain ⟨its, rv, p, hz⟩ := sqA_vals I hq
    obtain ⟨f0, f1, f2, f3, f4, f5⟩ := hf it (by simp)
    have hl := rv.length
    have hh : X.A.handled = none := I.ok.hd hc
    have hs : its.toArray.size = i := by simp; omega
    subst hs
    exact wpAny_pyNext_enum_endD (drawsA (prog := X.prog) (w := X.w) (A := X.A.in1) hh b it a hna its.toArray) he ⟨hit, p⟩ fun h' eb => ⟨rfl, I.turned (t' := s.toks) (fun d o hb q => eb d o hb q) f0 f1 f3 f4 f5⟩
  self := fun A i s Q E st h => let ⟨⟨_, he⟩, _⟩ := st; wpAny_pyIter_enum he h

/-! ### enumerate begins -/
theorem meets_enumerate_new1 {v : Value} {o : Obj} {H : Heap → Prop} (B : Begins v o H) :
    Meets (Builtin.«enumerate.__new__» ⟨[.type "enumerate", v], []⟩) (fun _ R s => H s.heap ∧
      R (.ok (.ret (.ref (s.heap.push o).objs.size))) { s with heap := (s.heap.push o).push { cls := .type "enumerate", data := .fields #[.none, .bool false, .ref s.heap.objs.size, rawInt 0, .none, .none] } }) :=
  .of_wp fun prog w A R s h => by
    obtain ⟨hp, g, d, tk, os⟩ := s; obtain ⟨h1, h⟩ := h
    have hsub := sub_enumerate
    have q1 : ∀ {A' : Around} {E : Value → Shared → Prop} {Q : Value → Shared → Prop}, Q (.ref hp.objs.size) ⟨hp.push o, g, d, tk, os⟩ → wpAny (model prog w) A' (pyIter v) Q E ⟨hp, g, d, tk, os⟩ :=
      fun q => B.iter prog w _ _ ⟨hp, g, d, tk, os⟩ _ h1 q
    wp_walk using q1
    refine wpAny_stack_any fun st => wpAny_pure ?_
    split
    · rename_i c _ _ _ _ _
      cases (c == Value.type "enumerate")
      · wp_walk using q1
        exact ⟨_, rfl, h⟩
      · wp_walk using q1
        exact ⟨_, rfl, h⟩
    · wp_walk using q1
      exact ⟨_, rfl, h⟩
section
variable {prog : Program} {w : World} {A : Around} {E : Value → Shared → Prop} {s : Shared}
theorem enum_begins1 {v : Value} {o : Obj} {H : Heap → Prop} {Q : Value → Shared → Prop} (B : Begins v o H) (h1 : H s.heap)
    (h : ∀ h', IsEnum h' (s.heap.objs.size + 1) s.heap.objs.size 0 .none → h'.get? s.heap.objs.size = some o → h'.objs.size = s.heap.objs.size + 2 →
      (∀ b o, s.heap.get? b = some o → h'.get? b = some o) → Q (.ref (s.heap.objs.size + 1)) { s with heap := h' }) :
    wpAny (model prog w) A (call (.type "enumerate") [v]) Q E s := by
  refine callType_new F.called_enumerate (by decide) (F.typeCall_enumerate_1 _) (F.newCall_enumerate_1 _) (fun obj => F.args_object_init_2 obj _) F.entry_enumerate_new
    (meets_enumerate_new1 B) ⟨h1, ?_⟩
  have hz : (s.heap.push o).objs.size = s.heap.objs.size + 1 := Heap.size_push ..
  show _ ∧ _
  rw [hz]
  have he : IsEnum ((s.heap.push o).push { cls := .type "enumerate", data := .fields #[.none, .bool false, .ref s.heap.objs.size, rawInt 0, .none, .none] }) (s.heap.objs.size + 1) s.heap.objs.size 0 .none := by
    have := Heap.get?_push_size (s.heap.push o) (o := { cls := .type "enumerate", data := .fields #[.none, .bool false, .ref s.heap.objs.size, rawInt 0, .none, .none] }) rfl
    rw [hz] at this; exact this
  refine ⟨⟨_, he, rfl⟩, h _ he (Heap.get?_push_of_some _ (Heap.get?_push_size _ B.free)) (by rw [Heap.size_push, hz]) fun b o x => Heap.get?_push_of_some _ (Heap.get?_push_of_some _ x)⟩
end
def itObj (b : Bool) (a : Addr) : Obj := if b then { cls := .type "tuple_iterator", data := .fields #[.ref a, .int 0 0] } else { cls := .type "list_iterator", data := .fields #[.ref a, .int 0 0] }
theorem begins_A (b : Bool) (a : Addr) (items : Array Value) : Begins (.ref a) (itObj b a) fun h => SeqIs h b a items := by
  cases b with
  | true => exact begins_tuple a items
  | false => exact begins_list a items
theorem iterAt_0 {h : Heap} {b : Bool} {it a : Addr} (e : h.get? it = some (itObj b a)) : IterAt h b it a 0 := by
  cases b with
  | true => exact ⟨_, e, rfl, rfl⟩
  | false => exact ⟨_, e, rfl, rfl⟩
def iEnumA (K : PySem.W.Frag) (ta : TA) : TI := fun σ H R => ta σ H fun vs H1 => ∃ b a xs, vs = [.ref a] ∧ SqA K H1 b a xs ∧ R (Its2 K b a 0) H1
def iEnumS (K : PySem.W.Frag) (ta : TA) : TI := fun σ H R => ta σ H fun vs H1 => ∃ b a xs c, vs = [.ref a, .int c] ∧ (-(2 ^ 63) ≤ c ∧ c < 2 ^ 63) ∧ SqA K H1 b a xs ∧ R (Its2 K b a c) H1
theorem enum_end {X : Cx} {pins : List (Addr × Obj)} {σ : L2.St} {H : Hp} {s1 : Shared} {b : Bool} {a : Addr} {xs : List V} {c : Int} {R : It → Hp → Prop} {elts : List Expr} {kk : Nat} {tpos : Pos} {h' : Heap}
    (I1 : Inv X pins σ H s1) (hq : SqA X.K H b a xs) (he : IsEnum h' (s1.heap.objs.size + 1) s1.heap.objs.size c .none) (hit : h'.get? s1.heap.objs.size = some (itObj b a)) (hk : ∀ b o, s1.heap.get? b = some o → h'.get? b = some o) (q : R (Its2 X.K b a c) H) :
    wpAny (model X.prog X.w) X.A (pyIter (.ref (s1.heap.objs.size + 1))) (PIE X pins σ (.Tuple elts kk tpos) R) X.xe { s1 with heap := h' } := by
  refine wpAny_pyIter_enum he ?_
  obtain ⟨its, rv, p, hlt⟩ := sqA_vals I1 hq
  have I2 : Inv X pins σ H { s1 with heap := h' } := I1.kept (t' := s1.toks) hk
  have he0 : IsEnum h' (s1.heap.objs.size + 1) s1.heap.objs.size (c + ((0 : Nat) : Int)) .none := by
    rw [show c + ((0 : Nat) : Int) = c by omega]; exact he
  refine ⟨s1.heap.objs.size + 1, [s1.heap.objs.size + 1, s1.heap.objs.size], _, _, H, rfl, I2, turn_enumA b c a (s1.heap.objs.size + 1) s1.heap.objs.size, ⟨⟨.none, he0⟩, iterAt_0 hit, Nat.succ_ne_self _, Nat.ne_of_lt hlt, Ne.symm (Nat.ne_of_lt (Nat.lt_succ_of_lt hlt))⟩, fun d hd => ?_, q⟩
  have e' : d = s1.heap.objs.size + 1 ∨ d = s1.heap.objs.size := by simpa using hd
  have hle : s1.heap.objs.size ≤ d := by
    rcases e' with z | z
    · rw [z]; exact Nat.le_add_right _ _
    · rw [z]; exact Nat.le_refl _
  exact I1.fpOk hle (I1.hok.fresh hle)
theorem pi_enumA {X : Cx} {e : Expr} {ta : TA} {p pos tpos : Pos} {elts : List Expr} {kk : Nat} (hg : Gl X "enumerate") (hm : X.mg "enumerate" = none) (ha : PA X [e] ta) (hs : starEach [e] X.env = [(false, eval e X.env)] := by rfl) :
    PI X (.Tuple elts kk tpos) (.Call (.Name "enumerate" p) [e] [] pos) (iEnumA X.K ta) := by
  refine ⟨fun pins s σ H R I h => ?_⟩
  refine Call_ (ld_blt I hg hm boot_enumerate (PyProof.Rows.callWith_type1 (thn (ha.run pos pins s σ H _ I h) fun us s1 ⟨vs, H1, I1, r1, q1⟩ => ?_) hs rfl))
  obtain ⟨b, a, xs, ex, hq, q⟩ := q1
  subst ex
  cases r1 with
  | cons r rr =>
    cases rr
    cases r
    obtain ⟨its, rv, p', hlt⟩ := sqA_vals I1 hq
    exact enum_begins1 (begins_A b a its.toArray) p' fun h' he hit hsz hk => enum_end I1 hq he hit hk q
theorem pi_enumS {X : Cx} {e e2 : Expr} {ta : TA} {p pos tpos : Pos} {elts : List Expr} {kk : Nat} (hg : Gl X "enumerate") (hm : X.mg "enumerate" = none) (ha : PA X [e, e2] ta) (hs : starEach [e, e2] X.env = (false, eval e X.env) :: starEach [e2] X.env := by rfl) (hpl : (backTo pos (starEach [e2] X.env)).any (·.1) = false := by rfl) :
    PI X (.Tuple elts kk tpos) (.Call (.Name "enumerate" p) [e, e2] [] pos) (iEnumS X.K ta) := by
  refine ⟨fun pins s σ H R I h => ?_⟩
  refine Call_ (ld_blt I hg hm boot_enumerate (PyProof.Rows.callWith_type1 (thn (ha.run pos pins s σ H _ I h) fun us s1 ⟨vs, H1, I1, r1, q1⟩ => ?_) hs hpl))
  obtain ⟨b, a, xs, c, ex, hc, hq, q⟩ := q1
  subst ex
  cases r1 with
  | cons r rr =>
    cases rr with
    | cons r' rr =>
      cases rr
      cases r
      obtain ⟨t, rfl⟩ := r'
      obtain ⟨its, rv, p', hlt⟩ := sqA_vals I1 hq
      exact enum_begins (begins_A b a its.toArray) p' hc.1 hc.2 fun h' he hit hsz hk => enum_end I1 hq he hit hk q

/-! ### the walks as data -/
theorem wk_list {K : PySem.W.Frag} {G : Hp} {a : Addr} {vs : List V} {xs : List PyData} (h : G a = some (.lst vs)) (r : RpAll K G vs xs) : Wk K G (Itl K a) xs := fun G2 H x e i => by
  have hh : SqL K H a vs := .inl (.inl (e _ _ (x _ _ h)))
  refine ⟨fun hi => ⟨?_, fun v H' hy => ?_⟩, fun hi => ⟨vs, hh, by rw [r.length]; omega⟩⟩
  · have hl : i < vs.length := by rw [r.length]; exact hi
    exact ⟨vs, vs[i], hh, List.getElem?_eq_getElem hl⟩
  · obtain ⟨rfl, hv⟩ := hy
    obtain ⟨d, h1, h2⟩ := r.getV (hv vs hh)
    exact ⟨G2, d, h1, .refl e, h2.mono x⟩
theorem wk_tup {K : PySem.W.Frag} {G : Hp} {a : Addr} {vs : List V} {xs : List PyData} (h : SqT K G a vs) (r : RpAll K G vs xs) : Wk K G (Itt K a) xs := fun G2 H x e i => by
  have hh : SqT K H a vs := e.st (x.st h)
  refine ⟨fun hi => ⟨?_, fun v H' hy => ?_⟩, fun hi => ⟨vs, hh, by rw [r.length]; omega⟩⟩
  · have hl : i < vs.length := by rw [r.length]; exact hi
    exact ⟨vs, vs[i], hh, List.getElem?_eq_getElem hl⟩
  · obtain ⟨rfl, hv⟩ := hy
    obtain ⟨d, h1, h2⟩ := r.getV (hv vs hh)
    exact ⟨G2, d, h1, .refl e, h2.mono x⟩
def rngD (lo : Int) (n : Nat) : List PyData := (List.range n).map fun i => .int (lo + (i : Nat))
theorem rngD_len (lo : Int) (n : Nat) : (rngD lo n).length = n := by simp [rngD]
theorem rngD_get (lo : Int) (n i : Nat) (h : i < n) : (rngD lo n)[i]? = some (.int (lo + (i : Nat))) := by simp [rngD, List.getElem?_map, List.getElem?_range h]
theorem wk_rng {K : PySem.W.Frag} {G : Hp} {lo : Int} {n : Nat} : Wk K G (Itr lo n) (rngD lo n) := fun G2 H x e i => by
  refine ⟨fun hi => ⟨by rw [rngD_len] at hi; exact hi, fun v H' hy => ?_⟩, fun hi => ?_⟩
  · obtain ⟨rfl, rfl⟩ := hy
    exact ⟨G2, _, rngD_get lo n i (by simpa [rngD_len] using hi), .refl e, .int _⟩
  · show n ≤ i
    rw [rngD_len] at hi; omega
def enumD : Int → List PyData → List PyData
  | _, [] => []
  | c, x :: xs => .tuple [.int c, x] :: enumD (c + 1) xs
theorem enumD_len : ∀ (c : Int) (xs : List PyData), (enumD c xs).length = xs.length
  | _, [] => rfl
  | c, x :: xs => by simp [enumD, enumD_len (c + 1) xs]
theorem enumD_get : ∀ (c : Int) (xs : List PyData) (i : Nat) (d : PyData), xs[i]? = some d → (enumD c xs)[i]? = some (.tuple [.int (c + (i : Nat)), d])
  | _, [], _, _, h => by simp at h
  | c, x :: xs, 0, d, h => by simp at h; subst h; simp [enumD]
  | c, x :: xs, i + 1, d, h => by
    have := enumD_get (c + 1) xs i d (by simpa using h)
    simp only [enumD, List.getElem?_cons_succ, this]
    have e : c + 1 + (i : Int) = c + ((i + 1 : Nat) : Int) := by omega
    rw [e]
theorem wk_enum {K : PySem.W.Frag} {G : Hp} {b : Bool} {a : Addr} {c : Int} {vs : List V} {xs : List PyData} (h : SqA K G b a vs) (hl : b = false → G a = some (.lst vs)) (r : RpAll K G vs xs) : Wk K G (Its2 K b a c) (enumD c xs) := fun G2 H x e i => by
  have hh : SqA K H b a vs := by
    cases b with
    | true => exact e.st (x.st h)
    | false => exact e.sl (x.sl h)
  refine ⟨fun hi => ⟨?_, fun v H' hy => ?_⟩, fun hi => ⟨vs, hh, by rw [r.length, hi, enumD_len]⟩⟩
  · have hl : i < vs.length := by rw [r.length]; simpa [enumD_len] using hi
    exact ⟨vs, vs[i], hh, List.getElem?_eq_getElem hl⟩
  · obtain ⟨T, y, rfl, hT, rfl, hv⟩ := hy
    obtain ⟨d, h1, h2⟩ := r.getV (hv vs hh)
    have px := PX.laid (o := .tup [.int (c + (i : Nat)), y]) e hT
    exact ⟨_, _, enumD_get c xs i d h1, px, .tup (.inl (.inl upd_same)) (.cons (.int _) (.cons ((h2.mono x).mono px.gg) .nil))⟩
def zipD : List PyData → List PyData → List PyData
  | x :: xs, y :: ys => .tuple [x, y] :: zipD xs ys
  | _, _ => []
theorem zipD_len : ∀ (xs ys : List PyData), (zipD xs ys).length = min xs.length ys.length
  | [], _ => by simp [zipD]
  | _ :: _, [] => by simp [zipD]
  | x :: xs, y :: ys => by simp [zipD, zipD_len xs ys]
theorem zipD_get : ∀ (xs ys : List PyData) (i : Nat) (x y : PyData), xs[i]? = some x → ys[i]? = some y → (zipD xs ys)[i]? = some (.tuple [x, y])
  | [], _, _, _, _, h, _ => by simp at h
  | _ :: _, [], _, _, _, _, h => by simp at h
  | x :: xs, y :: ys, 0, _, _, h, g => by simp at h g; subst h g; rfl
  | x :: xs, y :: ys, i + 1, u, v, h, g => by
    have := zipD_get xs ys i u v (by simpa using h) (by simpa using g)
    simpa [zipD] using this
theorem Ex.sx {K : PySem.W.Frag} {H H' : Hp} {t : Bool} {a : Addr} {xs : List V} (e : Ex H H') (h : ZB.SqX K H t a xs) : ZB.SqX K H' t a xs := by
  cases t
  · exact e.sl h
  · exact e.st h
theorem wk_zipX {K : PySem.W.Frag} {G : Hp} {t u : Bool} {a b : Addr} {vs ws : List V} {xs ys : List PyData} (h : ZB.SqX K G t a vs) (r : RpAll K G vs xs) (h2 : ZB.SqX K G u b ws) (r2 : RpAll K G ws ys) : Wk K G (ZB.ItzX K t u a b) (zipD xs ys) := fun G2 H x e i => by
  have hh : ZB.SqX K H t a vs := e.sx (x.sx h)
  have hh2 : ZB.SqX K H u b ws := e.sx (x.sx h2)
  have l1 := r.length
  have l2 := r2.length
  rw [zipD_len]
  refine ⟨fun hi => ⟨?_, fun v H' hy => ?_⟩, fun hi => ⟨vs, ws, hh, hh2, by omega⟩⟩
  · have hl : i < vs.length := by omega
    have hl2 : i < ws.length := by omega
    exact ⟨vs, ws, vs[i], ws[i], hh, hh2, List.getElem?_eq_getElem hl, List.getElem?_eq_getElem hl2⟩
  · obtain ⟨T, y, z, rfl, hT, rfl, hv, hw⟩ := hy
    obtain ⟨d, h1, h2⟩ := r.getV (hv vs hh)
    obtain ⟨d2, h3, h4⟩ := r2.getV (hw ws hh2)
    have px := PX.laid (o := .tup [y, z]) e hT
    exact ⟨_, _, zipD_get xs ys i d d2 h1 h3, px, .tup (.inl (.inl upd_same)) (.cons ((h2.mono x).mono px.gg) (.cons ((h4.mono x).mono px.gg) .nil))⟩

/-! ### the walks for the text -/
/-- a list or a tuple, gone through -/
def iSeq (K : PySem.W.Frag) (te : TE) : TI := fun σ H R => te σ H fun x H1 => ∃ b a xs, x = .ref a ∧ SqA K H1 b a xs ∧ R (if b then Itt K a else Itl K a) H1
theorem pi_seqA {X : Cx} {tg l : Expr} {tl : TE} (hl : PE X l tl) : PI X tg l (iSeq X.K tl) := by
  refine ⟨fun pins s σ H R I h => ?_⟩
  refine thn (hl.run pins s σ H _ I h) fun v s1 ⟨x, H1, I1, r1, q1⟩ => ?_
  obtain ⟨b, a, xs, e, hq, q⟩ := q1
  subst e
  cases r1
  have fresh : ∀ c, c ∈ [s1.heap.objs.size] → FpOk X pins H1 c := fun c hb => by
    have e : c = s1.heap.objs.size := by simpa using hb
    subst e
    exact I1.fpOk (Nat.le_refl _) (I1.hok.fresh (Nat.le_refl _))
  cases b with
  | true =>
    obtain ⟨its, rv, p, hz⟩ := I1.tuple hq
    refine wpAny_pyIter_tuple (show s1.heap.IsTuple a its.toArray from p) ?_
    exact ⟨s1.heap.objs.size, [s1.heap.objs.size], _, _, H1, rfl, I1.kept (t' := s1.toks) fun b o e => Heap.get?_push_of_some _ e, turn_tuple a _, ⟨_, Heap.get?_push_size _ rfl, rfl, rfl⟩, fresh, q⟩
  | false =>
    obtain ⟨its, rv, p, hz⟩ := I1.list hq
    refine wpAny_pyIter_list p.isList ?_
    exact ⟨s1.heap.objs.size, [s1.heap.objs.size], _, _, H1, rfl, I1.kept (t' := s1.toks) fun b o e => Heap.get?_push_of_some _ e, turn_list a _, ⟨_, Heap.get?_push_size _ rfl, rfl, rfl⟩, fresh, q⟩
def sSeqI (fd : DS) : LS := fun S => (fd S).bind fun p => (dItems p.1).map fun xs => (xs, p.2)
theorem dItems_some {x : PyData} {xs : List PyData} (h : dItems x = some xs) : x = .list xs ∨ x = .tuple xs := by
  cases x with
  | list c => cases h; exact .inl rfl
  | tuple c => cases h; exact .inr rfl
  | _ => cases h
section
variable {X : Cx} {K : PySem.W.Frag} {e e2 : Expr} {te : TE} {ta : TA} {fd : DS} {fs : AS} {tg : Expr} {p pos tpos : Pos} {elts : List Expr} {kk : Nat}
theorem sem_seqI (h : SemD K te fd) : SemI K (iSeq K te) (sSeqI fd) := fun F S σ H G xs S' r ef R k => by
  obtain ⟨⟨x, S1⟩, e1, e2⟩ := Option.bind_eq_some_iff.mp ef
  obtain ⟨ys, e3, e4⟩ := Option.map_eq_some_iff.mp e2
  cases e4
  refine h F S σ H G x _ r e1 _ fun v H1 G1 r1 g1 hv => ?_
  rcases dItems_some e3 with rfl | rfl
  · cases hv with
    | lst h1 h2 => exact ⟨false, _, _, rfl, .inl (.inl (r1.gh _ _ h1)), k _ H1 G1 r1 g1 (wk_list h1 h2)⟩
  · cases hv with
    | tup h1 h2 => exact ⟨true, _, _, rfl, r1.gh.st h1, k _ H1 G1 r1 g1 (wk_tup h1 h2)⟩
theorem si_seq (hK : X.K = K) (h : SDt X K e te fd) : SI X K tg e (iSeq K te) (sSeqI fd) := by subst hK; exact ⟨pi_seqA h.p, sem_seqI h.ok⟩
/-- the arguments, standing still -/
def sTakeA (f : AS) : List SD → Option (List PyData × List SD) := fun S => (f S).bind fun p => takeAll p.2 p.1
theorem take_A (h : SemA K ta fs) {F : Fr} {S S' : List SD} {σ : L2.St} {H G : Hp} {xs : List PyData} (r : SR K F S σ H G) (ef : sTakeA fs S = some (xs, S')) {Q : List V → Hp → Prop} (k : ∀ vs H' G', SR K F S' σ H' G' → Ex G G' → RpAll K G' vs xs → Q vs H') : ta σ H Q := by
  obtain ⟨⟨os, S1⟩, e1, e2⟩ := Option.bind_eq_some_iff.mp ef
  refine h F S σ H G os S1 r e1 _ fun vs H1 G1 r1 g1 h1 => ?_
  obtain ⟨G2, g2, r2, h2⟩ := takeAll_ok r1 h1 e2
  exact k vs H1 G2 r2 (g1.trans g2) h2
open Classical in
noncomputable def rngI : List PyData → Option (List PyData)
  | [.int j] => if -(2 ^ 62) ≤ j ∧ j < 2 ^ 62 then some (rngD 0 j.toNat) else none
  | [.int i, .int j] => if -(2 ^ 62) ≤ i ∧ i < 2 ^ 62 ∧ -(2 ^ 62) ≤ j ∧ j < 2 ^ 62 then some (rngD i (j - i).toNat) else none
  | _ => none
open Classical in
noncomputable def enumI : List PyData → Option (List PyData)
  | [x] => (dItems x).map (enumD 0)
  | [x, .int c] => if -(2 ^ 63) ≤ c ∧ c < 2 ^ 63 then (dItems x).map (enumD c) else none
  | _ => none
def zipI : List PyData → Option (List PyData)
  | [x, y] => (dItems x).bind fun xs => (dItems y).map fun ys => zipD xs ys
  | _ => none
def sArgI (g : List PyData → Option (List PyData)) (f : AS) : LS := fun S => (sTakeA f S).bind fun p => (g p.1).map fun xs => (xs, p.2)
theorem sem_rng1 (h : SemA K ta fs) (hn : ∀ S p S', sTakeA fs S = some (p, S') → p.length = 1) : SemI K (iRng1 ta) (sArgI rngI fs) := fun F S σ H G xs S' r ef R k => by
  obtain ⟨⟨x, S1⟩, e1, e2⟩ := Option.bind_eq_some_iff.mp ef
  obtain ⟨ys, e3, e4⟩ := Option.map_eq_some_iff.mp e2
  cases e4
  have hl : x.length = _ := hn _ _ _ e1
  have e3 : rngI x = some _ := e3
  refine take_A h r e1 fun vs H1 G1 r1 g1 hv => ?_
  unfold rngI at e3
  split at e3
  · split at e3
    · rename_i hc
      cases e3
      cases hv with
      | cons hv t => cases t; cases hv; exact ⟨_, rfl, hc.1, hc.2, k _ H1 G1 r1 g1 wk_rng⟩
    · cases e3
  · simp at hl
  · cases e3
theorem sem_rng2 (h : SemA K ta fs) (hn : ∀ S p S', sTakeA fs S = some (p, S') → p.length = 2) : SemI K (iRng2 ta) (sArgI rngI fs) := fun F S σ H G xs S' r ef R k => by
  obtain ⟨⟨x, S1⟩, e1, e2⟩ := Option.bind_eq_some_iff.mp ef
  obtain ⟨ys, e3, e4⟩ := Option.map_eq_some_iff.mp e2
  cases e4
  have hl : x.length = _ := hn _ _ _ e1
  have e3 : rngI x = some _ := e3
  refine take_A h r e1 fun vs H1 G1 r1 g1 hv => ?_
  unfold rngI at e3
  split at e3
  · simp at hl
  · split at e3
    · rename_i hc
      cases e3
      cases hv with
      | cons hv t => cases t with
        | cons hv2 t => cases t; cases hv; cases hv2; exact ⟨_, _, rfl, hc, k _ H1 G1 r1 g1 wk_rng⟩
    · cases e3
  · cases e3
theorem rp_sqA {G H : Hp} {v : V} {x : PyData} {ds : List PyData} (h : Rp K G v x) (e : dItems x = some ds) (eg : Ex G H) : ∃ b a vs, v = .ref a ∧ SqA K G b a vs ∧ SqA K H b a vs ∧ (b = false → G a = some (.lst vs)) ∧ RpAll K G vs ds := by
  rcases dItems_some e with rfl | rfl
  · cases h with
    | lst h1 h2 => exact ⟨false, _, _, rfl, .inl (.inl h1), .inl (.inl (eg _ _ h1)), fun _ => h1, h2⟩
  · cases h with
    | tup h1 h2 => exact ⟨true, _, _, rfl, h1, eg.st h1, fun q => (by cases q), h2⟩
theorem sem_enumA (h : SemA K ta fs) (hn : ∀ S p S', sTakeA fs S = some (p, S') → p.length = 1) : SemI K (iEnumA K ta) (sArgI enumI fs) := fun F S σ H G xs S' r ef R k => by
  obtain ⟨⟨x, S1⟩, e1, e2⟩ := Option.bind_eq_some_iff.mp ef
  obtain ⟨ys, e3, e4⟩ := Option.map_eq_some_iff.mp e2
  cases e4
  have hl : x.length = _ := hn _ _ _ e1
  have e3 : enumI x = some _ := e3
  refine take_A h r e1 fun vs H1 G1 r1 g1 hv => ?_
  unfold enumI at e3
  split at e3
  · obtain ⟨ds, e5, e6⟩ := Option.map_eq_some_iff.mp e3
    cases e6
    cases hv with
    | cons hv t =>
      cases t
      obtain ⟨b, a, ws, rfl, q1, q2, q3, q4⟩ := rp_sqA hv e5 r1.gh
      exact ⟨b, a, ws, rfl, q2, k _ H1 G1 r1 g1 (wk_enum q1 q3 q4)⟩
  · simp at hl
  · cases e3
theorem sem_enumS (h : SemA K ta fs) (hn : ∀ S p S', sTakeA fs S = some (p, S') → p.length = 2) : SemI K (iEnumS K ta) (sArgI enumI fs) := fun F S σ H G xs S' r ef R k => by
  obtain ⟨⟨x, S1⟩, e1, e2⟩ := Option.bind_eq_some_iff.mp ef
  obtain ⟨ys, e3, e4⟩ := Option.map_eq_some_iff.mp e2
  cases e4
  have hl : x.length = _ := hn _ _ _ e1
  have e3 : enumI x = some _ := e3
  refine take_A h r e1 fun vs H1 G1 r1 g1 hv => ?_
  unfold enumI at e3
  split at e3
  · simp at hl
  · split at e3
    · rename_i hc
      obtain ⟨ds, e5, e6⟩ := Option.map_eq_some_iff.mp e3
      cases e6
      cases hv with
      | cons hv t => cases t with
        | cons hv2 t =>
          cases t
          obtain ⟨b, a, ws, rfl, q1, q2, q3, q4⟩ := rp_sqA hv e5 r1.gh
          cases hv2
          exact ⟨b, a, ws, _, rfl, hc, q2, k _ H1 G1 r1 g1 (wk_enum q1 q3 q4)⟩
    · cases e3
  · cases e3
theorem rp_sqX {G : Hp} {v : V} {x : PyData} {xs : List PyData} (hv : Rp K G v x) (e : dItems x = some xs) : ∃ (t : Bool) (a : Addr) (ws : List V), v = .ref a ∧ ZB.SqX K G t a ws ∧ RpAll K G ws xs := by
  rcases dItems_some e with rfl | rfl
  · cases hv with
    | lst h1 h2 => exact ⟨false, _, _, rfl, .inl (.inl h1), h2⟩
  · cases hv with
    | tup h1 h2 => exact ⟨true, _, _, rfl, h1, h2⟩
theorem sem_zip (h : SemA K ta fs) : SemI K (ZB.iZipX K ta) (sArgI zipI fs) := fun F S σ H G xs S' r ef R k => by
  obtain ⟨⟨x, S1⟩, e1, e2⟩ := Option.bind_eq_some_iff.mp ef
  obtain ⟨ys, e3, e4⟩ := Option.map_eq_some_iff.mp e2
  cases e4
  have e3 : zipI x = some _ := e3
  refine take_A h r e1 fun vs H1 G1 r1 g1 hv => ?_
  unfold zipI at e3
  split at e3
  · obtain ⟨xs, q1, e3⟩ := Option.bind_eq_some_iff.mp e3
    obtain ⟨ys, q2, e3⟩ := Option.map_eq_some_iff.mp e3
    cases e3
    cases hv with
    | cons hv t => cases t with
      | cons hv2 t =>
        cases t
        obtain ⟨t, a, ws, rfl, s1, s2⟩ := rp_sqX hv q1
        obtain ⟨u, b, us, rfl, s3, s4⟩ := rp_sqX hv2 q2
        exact ⟨_, _, _, _, _, _, rfl, r1.gh.sx s1, r1.gh.sx s3, k _ H1 G1 r1 g1 (wk_zipX s1 s2 s3 s4)⟩
  · cases e3
theorem takeAll_len : ∀ {os : List Op} {S S' : List SD} {xs : List PyData}, takeAll S os = some (xs, S') → xs.length = os.length
  | [], _, _, _, e => by cases e; rfl
  | o :: os, S, S', _, e => by
    unfold takeAll at e
    obtain ⟨⟨x, S1⟩, e1, e⟩ := Option.bind_eq_some_iff.mp e
    obtain ⟨⟨xs, S2⟩, e2, e3⟩ := Option.map_eq_some_iff.mp e
    cases e3
    simp [takeAll_len e2]
theorem len_cons {fe : ES} {n : Nat} (h : ∀ S p S', fs S = some (p, S') → p.length = n) : ∀ S p S', sCons fe fs S = some (p, S') → p.length = n + 1 := fun S p S' e => by
  obtain ⟨⟨o1, S1⟩, e1, e2⟩ := Option.bind_eq_some_iff.mp e
  obtain ⟨⟨o2, S2⟩, e3, e4⟩ := Option.map_eq_some_iff.mp e2
  cases e4
  simp [h _ _ _ e3]
theorem len_nil : ∀ S p S', sNil S = some (p, S') → p.length = 0 := fun S p S' e => by cases e; rfl
theorem len_take {n : Nat} (h : ∀ S p S', fs S = some (p, S') → p.length = n) : ∀ S p S', sTakeA fs S = some (p, S') → p.length = n := fun S p S' e => by
  obtain ⟨⟨os, S1⟩, e1, e2⟩ := Option.bind_eq_some_iff.mp e
  rw [takeAll_len e2, h _ _ _ e1]
theorem si_rng1 {a : Expr} {fe : ES} (hm : X.mg "range" = none) (ha : SA X K [a] ta (sCons fe sNil)) (hg : Gl X "range" := by rfl) (hs : starEach [a] X.env = [(false, eval a X.env)] := by rfl) : SI X K tg (.Call (.Name "range" p) [a] [] pos) (iRng1 ta) (sArgI rngI (sCons fe sNil)) :=
  ⟨pi_range1 hg hm ha.p hs, sem_rng1 ha.ok (len_take (len_cons len_nil))⟩
theorem si_rng2 {a b : Expr} {fe fe2 : ES} (hm : X.mg "range" = none) (ha : SA X K [a, b] ta (sCons fe (sCons fe2 sNil))) (hg : Gl X "range" := by rfl) (hs : starEach [a, b] X.env = [(false, eval a X.env), (false, eval b X.env)] := by rfl) (hs2 : starEach [b] X.env = [(false, eval b X.env)] := by rfl) :
    SI X K tg (.Call (.Name "range" p) [a, b] [] pos) (iRng2 ta) (sArgI rngI (sCons fe (sCons fe2 sNil))) :=
  ⟨pi_range2 hg hm ha.p hs hs2, sem_rng2 ha.ok (len_take (len_cons (len_cons len_nil)))⟩
theorem si_enum {fe : ES} (hK : X.K = K) (hm : X.mg "enumerate" = none) (ha : SA X K [e] ta (sCons fe sNil)) (hg : Gl X "enumerate" := by rfl) (hs : starEach [e] X.env = [(false, eval e X.env)] := by rfl) : SI X K (.Tuple elts kk tpos) (.Call (.Name "enumerate" p) [e] [] pos) (iEnumA K ta) (sArgI enumI (sCons fe sNil)) := by
  subst hK
  exact ⟨pi_enumA hg hm ha.p hs, sem_enumA ha.ok (len_take (len_cons len_nil))⟩
theorem si_enumS {fe fe2 : ES} (hK : X.K = K) (hm : X.mg "enumerate" = none) (ha : SA X K [e, e2] ta (sCons fe (sCons fe2 sNil))) (hg : Gl X "enumerate" := by rfl) (hs : starEach [e, e2] X.env = (false, eval e X.env) :: starEach [e2] X.env := by rfl) (hpl : (backTo pos (starEach [e2] X.env)).any (·.1) = false := by rfl) :
    SI X K (.Tuple elts kk tpos) (.Call (.Name "enumerate" p) [e, e2] [] pos) (iEnumS K ta) (sArgI enumI (sCons fe (sCons fe2 sNil))) := by
  subst hK
  exact ⟨pi_enumS hg hm ha.p hs hpl, sem_enumS ha.ok (len_take (len_cons (len_cons len_nil)))⟩
theorem si_zip (hK : X.K = K) (hm : X.mg "zip" = none) (ha : SA X K [e, e2] ta fs) (hg : Gl X "zip" := by rfl) (hs : starEach [e, e2] X.env = (false, eval e X.env) :: starEach [e2] X.env := by rfl) (hpl : (backTo pos (starEach [e2] X.env)).any (·.1) = false := by rfl) :
    SI X K (.Tuple elts kk tpos) (.Call (.Name "zip" p) [e, e2] [] pos) (ZB.iZipX K ta) (sArgI zipI fs) := by
  subst hK
  exact ⟨ZB.pi_zipX hg hm ha.p hs hpl, sem_zip ha.ok⟩
end
/-! ### sorted of ints, out of a list or a tuple -/
section
variable {X : Cx} {K : PySem.W.Frag}
def dSortedL : List PyData → Option (List PyData)
  | [x] => (dItems x).bind fun xs => (dInts xs).map fun ns => (sortI ns).map .int
  | _ => none
theorem crSorted (hK : X.K = K) : CallR X (.builtin "sorted") (ZB.rSortX K) := by subst hK; exact ZB.cr_sortX
theorem vSortedL : VL K (ZB.rSortX K) dSortedL := fun G H vs xs z e rs q Q k => by
  unfold dSortedL at q
  split at q
  · obtain ⟨ys, q1, q⟩ := Option.bind_eq_some_iff.mp q
    obtain ⟨ns, q2, q⟩ := Option.map_eq_some_iff.mp q
    cases q
    have hx := dInts_some q2
    subst hx
    cases rs with
    | cons r t =>
      cases t
      have key : ∀ (a : Addr) (t : Bool), ZB.SqX K H t a (ns.map V.int) → ZB.rSortX K [.ref a] H Q := fun a t hs => by
        refine ⟨a, t, ns, rfl, hs, fun ns' p pm so hp => ?_⟩
        have hs : ns' = sortI ns := sorted_unique (pm.trans (sortI_perm ns).symm) so (sortI_sorted ns)
        subst hs
        exact k p _ _ G (PX.side e hp) hp (e.free hp) upd_same (RpAll.of_ints _)
      rcases dItems_some q1 with rfl | rfl
      · obtain ⟨a, ws, rfl, h2, h3⟩ := r.lst e
        have hw := h3.ints
        subst hw
        exact key a false (.inl (.inl h2))
      · obtain ⟨a, ws, rfl, h2, h3⟩ := r.tup e
        have hw := h3.ints
        subst hw
        exact key a true h2
  · cases q
end
end DL

set_option Elab.async false
set_option linter.all false
set_option maxRecDepth 100000
set_option maxHeartbeats 4000000
/-! DL, part 8: slices. -/
namespace DL
open PySem PySem.Spec PyProof.Rows L2

/-! ### t[::-1] of a tuple -/
theorem adjust_rev (n : Nat) : Builtin.Slice.sliceAdjust none none (-1) (n : Int) = ((n : Int) - 1, -1) := by
  unfold Builtin.Slice.sliceAdjust
  simp
theorem places_rev (n : Nat) : Builtin.Slice.slicePlaces ((n : Int) - 1) (-1) (-1) = n := by
  unfold Builtin.Slice.slicePlaces
  simp
  split <;> omega
theorem pick_rev (xs : Array Value) : ((List.range xs.size).filterMap fun (m : Nat) => xs[(((xs.size : Int) - 1) + (m : Int) * (-1)).toNat]?).toArray = xs.toList.reverse.toArray := by
  congr 1
  apply List.ext_getElem?
  intro i
  have e : ((List.range xs.size).filterMap fun (m : Nat) => xs[(((xs.size : Int) - 1) + (m : Int) * (-1)).toNat]?) = (List.range xs.size).pmap (fun m h => xs[xs.size - 1 - m]'(by have : m < xs.size := h; omega)) (fun m h => List.mem_range.mp h) := by
    rw [List.pmap_eq_map_attach]
    have : ∀ (l : List Nat) (hl : ∀ m ∈ l, m < xs.size), (l.filterMap fun (m : Nat) => xs[(((xs.size : Int) - 1) + (m : Int) * (-1)).toNat]?) = l.attach.map (fun m => xs[xs.size - 1 - m.1]'(by have := hl m.1 m.2; omega)) := by
      intro l
      induction l with
      | nil => intro _; rfl
      | cons m l ih =>
        intro hl
        have hm := hl m (by simp)
        have e1 : (((xs.size : Int) - 1) + (m : Int) * (-1)).toNat = xs.size - 1 - m := by omega
        have e2 : xs[xs.size - 1 - m]? = some (xs[xs.size - 1 - m]'(by omega)) := Array.getElem?_eq_getElem (by omega)
        rw [List.filterMap_cons, e1, e2, List.attach_cons, List.map_cons, List.map_map]
        simp only [List.cons.injEq, true_and]
        rw [ih fun k hk => hl k (List.mem_cons_of_mem _ hk)]
        rfl
    exact this _ fun m h => List.mem_range.mp h
  rw [e, List.getElem?_pmap]
  by_cases hi : i < xs.size
  · rw [List.getElem?_reverse (by simpa using hi)]
    simp [List.getElem?_range hi, hi]
  · rw [List.getElem?_eq_none (l := xs.toList.reverse) (by simpa using Nat.le_of_not_lt hi), ← List.getElem?_pmap, List.getElem?_eq_none (by simpa using Nat.le_of_not_lt hi)]
section
variable {prog : Program} {w : World} {A : Around} {E : Value → Shared → Prop} {s : Shared}
open HT
theorem sliceApplied_rev {sl : Addr} {vl vu vs : Value} {n : Nat} {Q : Int × Int × Nat → Shared → Prop} (hs : s.heap.IsSliceOf sl vl vu vs) (pl : IsPart vl none) (pu : IsPart vu none) (ps : IsPart vs (some (-1)))
    (h : Q ((n : Int) - 1, -1, n) s) : wpAny (model prog w) A (Builtin.Slice.sliceApplied (.ref sl) (pure (n : Int))) Q E s := by
  obtain ⟨os, hos, hcs, hds⟩ := id hs
  unfold Builtin.Slice.sliceApplied Builtin.Slice.sliceFields
  refine wpAny_bind (wpAny_bind (wpAny_field hos hds (x := vl) rfl (wpAny_bind (wpAny_field hos hds (x := vu) rfl (wpAny_bind (wpAny_field hos hds (x := vs) rfl (wpAny_pure ?_)))))))
  refine wpAny_bind (slicePart_ ps ?_)
  show wpAny _ _ (if ((-1 : Int) == 0) = true then _ else _) _ _ s
  rw [if_neg (by decide)]
  refine wpAny_bind (slicePart_ pl (wpAny_bind (slicePart_ pu (wpAny_bind (wpAny_pure ?_)))))
  show wpAny _ _ (match Builtin.Slice.sliceAdjust none none (-1) (n : Int) with | (lo, hi) => pure (lo, (-1 : Int), Builtin.Slice.slicePlaces lo hi (-1))) _ _ s
  rw [adjust_rev n]
  show wpAny _ _ (pure (((n : Int) - 1), (-1 : Int), Builtin.Slice.slicePlaces ((n : Int) - 1) (-1) (-1))) _ _ s
  rw [places_rev]
  exact wpAny_pure h
theorem getItem_tuple_rev {t sl : Addr} {items : Array Value} {vl vu vs : Value} {Q : Value → Shared → Prop} (ht : IsTup s.heap t items) (hs : s.heap.IsSliceOf sl vl vu vs) (pl : IsPart vl none) (pu : IsPart vu none) (ps : IsPart vs (some (-1)))
    (h : Q (.ref s.heap.objs.size) { s with heap := s.heap.push { cls := .type "tuple", data := .seq items.toList.reverse.toArray } })
    (hsz : items.size ≤ sizeLine) : wpAny (model prog w) A (getItem (.ref t) (.ref sl)) Q E s := by
  have htake : sizeOk (.seq items.toList.reverse.toArray) := by
    show items.toList.reverse.toArray.size ≤ sizeLine
    rw [List.size_toArray, List.length_reverse, Array.length_toList]
    omega
  obtain ⟨os, hos, hcs, hds⟩ := id hs
  have hTs : s.TypeIs (.ref sl) "slice" := ⟨os, hos, hcs⟩
  unfold getItem
  try with_reducible refine wpAny_holding ?_
  first | refine wpAny_bind (wpAny_pure ?_) | skip
  refine wpAny_bind (wpAny_sequenceKey ht.typeIs (by decide) ?_)
  refine wpAny_bind (wpAny_callSpecial?_slot (name := Str.ofString "__getitem__") ht.typeIs PyProof.Rows.slot_tuple_getitem
    (wpAny_call_entry PyProof.Rows.slot_tuple_getitem ht.typeIs entry_tuple_getitem ?_ (args_tuple_getitem _ _)))
  show wpAny _ _ (Builtin.Tuple.tupleItemsOf (.ref t) >>= _) _ _ s
  refine wpAny_bind (tupleItemsOf_ ht ?_)
  refine wpAny_bind (wpAny_typeOf hTs ?_)
  rw [if_pos (by decide)]
  refine wpAny_bind (sliceApplied_rev hs pl pu ps ?_)
  have hno : ¬ ((((items.size : Int) - 1) == 0 && (-1 : Int) == 1 && items.size == items.size) = true) := by
    intro q
    rw [Bool.and_eq_true, Bool.and_eq_true] at q
    exact absurd q.1.2 (by decide)
  show wpAny _ _ (if (((items.size : Int) - 1) == 0 && (-1 : Int) == 1 && items.size == items.size) = true then _ else _) _ _ s
  rw [if_neg hno, pick_rev]
  first
    | exact wpAny_bind (m := Builtin.Tuple.tupleExact _) (wpAny_newObj_type (wpAny_pure ⟨_, rfl, wpAny_pure h⟩) htake)
    | exact wpAny_bind (m := Builtin.Tuple.tupleExact _) (wpAny_newObj_type (wpAny_bind (wpAny_pure (wpAny_pure ⟨_, rfl, wpAny_pure h⟩))) htake)
    | exact wpAny_bind (wpAny_bind (m := Builtin.Tuple.tupleExact _) (wpAny_newObj_type (wpAny_pure (wpAny_pure ⟨_, rfl, wpAny_pure h⟩)) htake))
    | exact wpAny_bind (wpAny_bind (m := Builtin.Tuple.tupleExact _) (wpAny_newObj_type (wpAny_pure ⟨_, rfl, wpAny_pure h⟩) htake))
end
/-- xs[::-1], a list or a tuple -/
def tRevA (K : PySem.W.Frag) (te : TE) : TE := fun σ H Q => te σ H fun x H1 => ∃ a xs, x = .ref a ∧ ((SqL K H1 a xs ∧ ∀ p, H1 p = none → Q (.ref p) (upd H1 p (.lst xs.reverse))) ∨ (SqT K H1 a xs ∧ ∀ p, H1 p = none → Q (.ref p) (upd H1 p (.tup xs.reverse))))
theorem pe_revA {X : Cx} {e : Expr} {te : TE} {k : Nat} {p1 p2 p3 pos : Pos} (he : PE X e te) : PE X (.Subscript e (.Slice none none (some (.UnaryOp .USub (.Constant (.int 1) k p1) p2)) p3) pos) (tRevA X.K te) := by
  refine ⟨fun pins s σ H Q I h => ?_⟩
  refine Subscript_ (thn (he.run pins s σ H _ I h) fun v s1 ⟨x, H1, I1, r1, q1⟩ => ?_)
  obtain ⟨a, xs, ex, q⟩ := q1
  subst ex
  cases r1
  have hst : PO X (some (.UnaryOp .USub (.Constant (.int 1) k p1) p2)) (tPart (tUn (rU fun i => .int (-i)) (tC (.int 1)))) := po_some (pe_un un_neg pe_int)
  refine wpAny_Slice (thn (po_none.run pins s1 σ H1 (fun o H2 => o = none ∧ H2 = H1) I1 ⟨rfl, rfl⟩) fun vl s2 ⟨l, H2, I2, pl, el, e2⟩ => ?_)
  subst el e2
  refine thn (po_none.run pins s2 σ H2 (fun o H3 => o = none ∧ H3 = H2) I2 ⟨rfl, rfl⟩) fun vu s3 ⟨u, H3, I3, pu, eu, e3⟩ => ?_
  subst eu e3
  refine thn (hst.run pins s3 σ H3 (fun o H4 => o = some (-1) ∧ H4 = H3) I3 ⟨1, rfl, -1, rfl, rfl, rfl⟩) fun vs s4 ⟨o, H4, I4, ps, eo, e4⟩ => ?_
  subst eo e4
  have I5 : Inv X pins σ H4 { s4 with heap := s4.heap.push { cls := .type "slice", data := .fields #[vl, vu, vs] } } := I4.kept (t' := s4.toks) fun b ob q => Heap.get?_push_of_some _ q
  show wpAny (model X.prog X.w) X.A (subscriptTail e (.Slice none none (some (.UnaryOp .USub (.Constant (.int 1) k p1) p2)) p3) (.ref a) (.ref s4.heap.objs.size)) (EP X pins σ Q) X.xe { s4 with heap := s4.heap.push { cls := .type "slice", data := .fields #[vl, vu, vs] } }
  rcases q with ⟨hx, q⟩ | ⟨hx, q⟩
  · obtain ⟨its, r, ht, hz⟩ := I5.list hx
    have hlen := r.length
    refine tail_any (ops := [.ref a, .ref s4.heap.objs.size]) ht.isList.typeIs (PySem.slot_list_getitem.lookup) ?_ (by with_unfolding_all rfl)
    refine wpAny_getItem_list_slice ht.isList (Heap.IsSliceOf.new _ vl vu vs) pl pu ps (by decide) ?_ (by rw [List.size_toArray]; omega)
    rw [PySem.W.krv_pick]
    refine ⟨.ref _, _, I5.laid (t' := s4.toks) (o := .lst xs.reverse) (fun b ob q => Heap.get?_push_of_some _ q) (Nat.le_refl _) ?_, rfl, q _ (I5.hok.fresh (Nat.le_refl _))⟩
    exact ⟨by rw [List.length_reverse]; exact hz, _, 0, r.reverse, Heap.get?_push_size _ rfl⟩
  · obtain ⟨its, r, ht, hz⟩ := I5.tuple hx
    have hlen := r.length
    refine tail_any (ops := [.ref a, .ref s4.heap.objs.size]) ht.typeIs PyProof.Rows.slot_tuple_getitem.lookup ?_ (by with_unfolding_all rfl)
    refine getItem_tuple_rev ht (Heap.IsSliceOf.new _ vl vu vs) pl pu ps ?_ (by rw [List.size_toArray]; omega)
    rw [show its.toArray.toList = its from rfl]
    refine ⟨.ref _, _, I5.laid (t' := s4.toks) (o := .tup xs.reverse) (fun b ob q => Heap.get?_push_of_some _ q) (Nat.le_refl _) ?_, rfl, q _ (I5.hok.fresh (Nat.le_refl _))⟩
    exact ⟨by rw [List.length_reverse]; exact hz, _, r.reverse, IsTup.new _ _⟩

/-! ### slices over data -/
abbrev OS := List SD → Option (Option Int × List SD)
def SemO (K : PySem.W.Frag) (t : TO) (f : OS) : Prop := ∀ F S σ H G o S', SR K F S σ H G → f S = some (o, S') → ∀ Q : Option Int → Hp → Prop, (∀ H' G', SR K F S' σ H' G' → Ex G G' → Q o H') → t σ H Q
structure SO (X : Cx) (K : PySem.W.Frag) (e : Option Expr) (t : TO) (f : OS) : Prop where
  p : PO X e t
  ok : SemO K t f
def sNoPart : OS := fun S => some (none, S)
def dIntO : PyData → Option Int
  | .int i => some i
  | _ => none
theorem dIntO_some {x : PyData} {i : Int} (h : dIntO x = some i) : x = .int i := by
  cases x with
  | int j => cases h; rfl
  | _ => cases h
def sPart (f : ES) : OS := fun S => (f S).bind fun p => (p.1.get p.2).bind fun x => (dIntO x).map fun i => (some i, p.2)
section
variable {X : Cx} {K : PySem.W.Frag} {e : Expr} {te : TE} {fe : ES} {lo hi : Option Expr} {tl th : TO} {fl fh : OS} {pos p2 : Pos}
theorem sem_noPart : SemO K tNoPart sNoPart := fun F S σ H G o S' r ef Q k => by
  cases ef
  exact k H G r (.refl _)
theorem sem_part (h : SemE K te fe) : SemO K (tPart te) (sPart fe) := fun F S σ H G o S' r ef Q k => by
  obtain ⟨⟨o1, S1⟩, e1, ef⟩ := Option.bind_eq_some_iff.mp ef
  obtain ⟨x, e2, ef⟩ := Option.bind_eq_some_iff.mp ef
  obtain ⟨i, e3, ef⟩ := Option.map_eq_some_iff.mp ef
  cases ef
  have hx := dIntO_some e3
  subst hx
  refine h F S σ H G o1 _ r e1 _ fun v H1 G1 r1 g1 h1 => ?_
  have := op_get r1 h1 e2
  exact ⟨i, this.int, k H1 G1 r1 g1⟩
theorem so_none : SO X K none tNoPart sNoPart := ⟨po_none, sem_noPart⟩
theorem so_some (h : SE X K e te fe) : SO X K (some e) (tPart te) (sPart fe) := ⟨po_some h.p, sem_part h.ok⟩
def cutD (xs : List PyData) (lo hi : Option Int) : List PyData := (xs.drop (HT.sIx xs.length 0 lo)).take (HT.sIx xs.length xs.length hi - HT.sIx xs.length 0 lo)
theorem RpAll.cut {G : Hp} {vs : List V} {xs : List PyData} (h : RpAll K G vs xs) (lo hi : Option Int) : RpAll K G (cutV vs lo hi) (cutD xs lo hi) := by
  unfold cutV cutD
  rw [h.length]
  exact (h.drop _).take _
def dCut (x : PyData) (lo hi : Option Int) : Option PyData := match x with
  | .tuple xs => some (.tuple (cutD xs lo hi))
  | .list xs => some (.list (cutD xs lo hi))
  | _ => none
def dCutL (x : PyData) (lo hi : Option Int) : Option (List PyData) := match x with
  | .list xs => some (cutD xs lo hi)
  | _ => none
def rSl2 (K : PySem.W.Frag) : V → Option Int → Option Int → Hp → VK → Prop := fun x lo hi H Q => rSlA K x lo hi H Q ∨ rSlL K x lo hi H Q
theorem sl_2 (hK : X.K = K) : SlR X (rSl2 K) := by subst hK; exact sl_tupA.or sl_list
def sSlice (fe : ES) (fl fh : OS) : ES := fun S => (fe S).bind fun p => (fl p.2).bind fun q => (fh q.2).bind fun r => (p.1.get r.2).bind fun x => (dCut x q.1 r.1).map fun z => (.dat z, r.2)
def sSliceL (fe : ES) (fl fh : OS) : LS := fun S => (fe S).bind fun p => (fl p.2).bind fun q => (fh q.2).bind fun r => (p.1.get r.2).bind fun x => (dCutL x q.1 r.1).map fun z => (z, r.2)
theorem whole_cut {xs : List V} {lo hi : Option Int} (h : HT.sIx xs.length 0 lo = 0 ∧ HT.sIx xs.length xs.length hi = xs.length) : cutV xs lo hi = xs := by
  unfold cutV
  rw [h.1, h.2]
  simp
theorem sem_slice (ha : SemE K te fe) (h1 : SemO K tl fl) (h2 : SemO K th fh) : SemE K (tSl (rSl2 K) te tl th) (sSlice fe fl fh) := fun F S σ H G o S' r ef Q k => by
  obtain ⟨⟨o1, S1⟩, e1, ef⟩ := Option.bind_eq_some_iff.mp ef
  obtain ⟨⟨l, S2⟩, e2, ef⟩ := Option.bind_eq_some_iff.mp ef
  obtain ⟨⟨u, S3⟩, e3, ef⟩ := Option.bind_eq_some_iff.mp ef
  obtain ⟨x, e4, ef⟩ := Option.bind_eq_some_iff.mp ef
  obtain ⟨z, e5, ef⟩ := Option.map_eq_some_iff.mp ef
  cases ef
  refine ha F S σ H G o1 S1 r e1 _ fun v H1 G1 r1 g1 q1 => ?_
  refine h1 F S1 σ H1 G1 l S2 r1 e2 _ fun H2 G2 r2 g2 => ?_
  refine h2 F S2 σ H2 G2 u _ r2 e3 _ fun H3 G3 r3 g3 => ?_
  have g := (g1.trans g2).trans g3
  have hx := op_get r3 (q1.mono (g2.trans g3)) e4
  cases x with
  | tuple xs =>
    cases e5
    have hR : Rp K G3 v (.tuple xs) := by
      rcases hx with h | ⟨_, _, _, h, _⟩
      · exact h
      · cases h
    cases hR with
    | @tup a vs _ ht ha =>
      refine .inl ⟨_, _, rfl, r3.gh.st ht, fun hw => k _ H3 G3 r3 g ?_, fun hw p hp => ?_⟩
      · have h2 := ha.cut l u
        rw [whole_cut hw] at h2
        exact .tup ht h2
      · have px := PX.laid (o := .tup (cutV vs l u)) r3.gh hp
        exact k _ _ _ (r3.ext px) (g.trans px.gg) (.tup (.inl (.inl upd_same)) ((ha.cut l u).mono px.gg))
  | list xs =>
    cases e5
    obtain ⟨a, vs, rfl, q2, q3⟩ := hx.lst r3.gh
    refine .inr ⟨a, vs, rfl, .inl (.inl q2), fun p hp => ?_⟩
    have px := PX.laid (o := .lst (cutV vs l u)) r3.gh hp
    exact k _ _ _ (r3.ext px) (g.trans px.gg) (.lst upd_same ((q3.cut l u).mono px.gg))
  | _ => cases e5
theorem sem_sliceL (ha : SemE K te fe) (h1 : SemO K tl fl) (h2 : SemO K th fh) : SemL K (tSl (rSl2 K) te tl th) (sSliceL fe fl fh) := fun F S σ H G o S' r ef Q k => by
  obtain ⟨⟨o1, S1⟩, e1, ef⟩ := Option.bind_eq_some_iff.mp ef
  obtain ⟨⟨l, S2⟩, e2, ef⟩ := Option.bind_eq_some_iff.mp ef
  obtain ⟨⟨u, S3⟩, e3, ef⟩ := Option.bind_eq_some_iff.mp ef
  obtain ⟨x, e4, ef⟩ := Option.bind_eq_some_iff.mp ef
  obtain ⟨z, e5, ef⟩ := Option.map_eq_some_iff.mp ef
  cases ef
  refine ha F S σ H G o1 S1 r e1 _ fun v H1 G1 r1 g1 q1 => ?_
  refine h1 F S1 σ H1 G1 l S2 r1 e2 _ fun H2 G2 r2 g2 => ?_
  refine h2 F S2 σ H2 G2 u _ r2 e3 _ fun H3 G3 r3 g3 => ?_
  have g := (g1.trans g2).trans g3
  have hx := op_get r3 (q1.mono (g2.trans g3)) e4
  cases x with
  | list xs =>
    cases e5
    obtain ⟨a, vs, rfl, q2, q3⟩ := hx.lst r3.gh
    refine .inr ⟨a, vs, rfl, .inl (.inl q2), fun p hp => ?_⟩
    obtain ⟨f0, fg, fa⟩ := r3.fresh hp
    have px := PX.side (o := .lst (cutV vs l u)) r3.gh hp
    exact k _ _ _ _ (r3.ext px) g f0 fg fa upd_same (q3.cut l u)
  | _ => cases e5
theorem se_slice (hK : X.K = K) (he : SE X K e te fe) (h1 : SO X K lo tl fl) (h2 : SO X K hi th fh) : SE X K (.Subscript e (.Slice lo hi none p2) pos) (tSl (rSl2 K) te tl th) (sSlice fe fl fh) := ⟨pe_slice (sl_2 hK) he.p h1.p h2.p, sem_slice he.ok h1.ok h2.ok⟩
theorem sl_slice (hK : X.K = K) (he : SE X K e te fe) (h1 : SO X K lo tl fl) (h2 : SO X K hi th fh) : SL X K (.Subscript e (.Slice lo hi none p2) pos) (tSl (rSl2 K) te tl th) (sSliceL fe fl fh) := ⟨pe_slice (sl_2 hK) he.p h1.p h2.p, sem_sliceL he.ok h1.ok h2.ok⟩
def dRev : PyData → Option PyData
  | .tuple xs => some (.tuple xs.reverse)
  | .list xs => some (.list xs.reverse)
  | _ => none
theorem sem_rev (ha : SemE K te fe) : SemE K (tRevA K te) (sUn dRev fe) := fun F S σ H G o S' r ef Q k => by
  obtain ⟨⟨o1, S1⟩, e1, ef⟩ := Option.bind_eq_some_iff.mp ef
  obtain ⟨x, e4, ef⟩ := Option.bind_eq_some_iff.mp ef
  obtain ⟨z, e5, ef⟩ := Option.map_eq_some_iff.mp ef
  cases ef
  refine ha F S σ H G o1 _ r e1 _ fun v H3 G3 r3 g q1 => ?_
  have hx := op_get r3 q1 e4
  cases x with
  | tuple xs =>
    cases e5
    obtain ⟨a, vs, rfl, q2, q3⟩ := hx.tup r3.gh
    refine ⟨a, vs, rfl, .inr ⟨q2, fun p hp => ?_⟩⟩
    have px := PX.laid (o := .tup vs.reverse) r3.gh hp
    exact k _ _ _ (r3.ext px) (g.trans px.gg) (.tup (.inl (.inl upd_same)) (q3.reverse.mono px.gg))
  | list xs =>
    cases e5
    obtain ⟨a, vs, rfl, q2, q3⟩ := hx.lst r3.gh
    refine ⟨a, vs, rfl, .inl ⟨.inl (.inl q2), fun p hp => ?_⟩⟩
    have px := PX.laid (o := .lst vs.reverse) r3.gh hp
    exact k _ _ _ (r3.ext px) (g.trans px.gg) (.lst upd_same (q3.reverse.mono px.gg))
  | _ => cases e5
theorem se_rev {kk : Nat} {p1 p3 p4 : Pos} (hK : X.K = K) (he : SE X K e te fe) : SE X K (.Subscript e (.Slice none none (some (.UnaryOp .USub (.Constant (.int 1) kk p1) p3)) p4) pos) (tRevA K te) (sUn dRev fe) := by
  subst hK
  exact ⟨pe_revA he.p, sem_rev he.ok⟩
end
end DL

set_option Elab.async false
set_option linter.all false
set_option maxRecDepth 100000
set_option maxHeartbeats 4000000
/-! DL, part 9: t * k of any kind, sorted(set(t)), repr. -/
namespace DL
open PySem PySem.Spec PyProof.Rows L2

theorem tuple_mulS (l : Addr) (items : Array Value) (n : Nat) (dd : Option Addr) (sl : Array (Option Value)) (x : Int) (u : Tok) (c0 : (decide (x < -(2 ^ 63)) || decide (x ≥ 2 ^ 63)) = false) (c1 : (items.isEmpty || x == 1) = true) :
    Meets (Builtin.«tuple.__mul__» ⟨[.ref l, .int x u], []⟩) (fun _ R s => s.heap.get? l = some { cls := .type "tuple", dict := dd, data := .seq items n, slots := sl } ∧
      R (.ok (.ret (Value.ref l))) s) :=
  .of_wp fun prog w A R s h => by
    obtain ⟨hp, g, d, tk, os⟩ := s
    obtain ⟨hl, h⟩ := h
    have f1 := AutoSeq1.idx_int
    wp_walk using wpAny_loadPart' hl
    repeat (first
      | (refine wpAny_ite_false (decide_eq_false (by rw [c0]; exact Bool.false_ne_true)) ?_; wp_walk using wpAny_loadPart' hl)
      | (refine wpAny_ite_true (decide_eq_true c1) ?_; wp_walk using wpAny_loadPart' hl))
    exact ⟨_, rfl, h⟩
theorem tuple_mulE (l : Addr) (items : Array Value) (n : Nat) (dd : Option Addr) (sl : Array (Option Value)) (x : Int) (u : Tok) (c0 : (decide (x < -(2 ^ 63)) || decide (x ≥ 2 ^ 63)) = false) (c1 : (items.isEmpty || x == 1) = false) (c2 : (decide (x ≤ 0) || items.isEmpty) = true) :
    Meets (Builtin.«tuple.__mul__» ⟨[.ref l, .int x u], []⟩) (fun _ R s => s.heap.get? l = some { cls := .type "tuple", dict := dd, data := .seq items n, slots := sl } ∧
      R (.ok (.ret (Value.ref s.heap.objs.size))) { s with heap := s.heap.push { cls := Value.type "tuple", data := Data.seq #[] }, toks := s.toks }) :=
  .of_wp fun prog w A R s h => by
    obtain ⟨hp, g, d, tk, os⟩ := s
    obtain ⟨hl, h⟩ := h
    have f1 := AutoSeq1.idx_int
    wp_walk using wpAny_loadPart' hl
    repeat (first
      | (refine wpAny_ite_false (decide_eq_false (by rw [c0]; exact Bool.false_ne_true)) ?_; wp_walk using wpAny_loadPart' hl)
      | (refine wpAny_ite_false (decide_eq_false (by rw [c1]; exact Bool.false_ne_true)) ?_; wp_walk using wpAny_loadPart' hl)
      | (refine wpAny_ite_true (decide_eq_true c2) ?_; wp_walk using wpAny_loadPart' hl))
    exact ⟨_, rfl, h⟩

def rRepS (K : PySem.W.Frag) : R2 := fun x y H Q => ∃ l k xs, x = .ref l ∧ y = .int k ∧ SqT K H l xs ∧ -(2 ^ 62) ≤ k ∧ k < 2 ^ 62 ∧ (xs = [] ∨ k = 1) ∧ Q (.ref l) H
def rRepE (K : PySem.W.Frag) : R2 := fun x y H Q => ∃ l k xs, x = .ref l ∧ y = .int k ∧ SqT K H l xs ∧ -(2 ^ 62) ≤ k ∧ k ≤ 0 ∧ xs ≠ [] ∧ ∀ p, H p = none → Q (.ref p) (upd H p (.tup []))
section
variable {X : Cx} {K : PySem.W.Frag}
theorem op_repS : L2.OpR X (binaryOp .Mult) (rRepS X.K) := by
  intro pins s σ H x y v u Q I rx ry h
  obtain ⟨l, k, xs, rfl, rfl, hT, h1, h2, h3, q⟩ := h
  cases rx
  obtain ⟨t, rfl⟩ := ry
  obtain ⟨its, r, ⟨⟨cls, dd, data, sl⟩, ho, hc, n, hd⟩, hs⟩ := I.tuple hT
  simp only at hc hd
  subst hc hd
  have hle : its.length = xs.length := r.length.symm
  have c0 : (decide (k < -(2 ^ 63)) || decide (k ≥ 2 ^ 63)) = false := by
    rw [decide_eq_false (by omega), decide_eq_false (by omega)] <;> rfl
  have c1 : (its.toArray.isEmpty || k == 1) = true := by
    rcases h3 with h3 | h3
    · subst h3
      have : its = [] := List.eq_nil_of_length_eq_zero (by simpa using hle)
      subst this; rfl
    · subst h3; simp
  exact wpAny_binaryOp_repeat_ref (T := "tuple") (U := "int") (by decide) ⟨_, ho, rfl⟩ (fun s' => typeIs_int s' k t) noFill_tuple_mul F.fills_int_mul F.slot_int_rmul repeat_tuple F.slot_int_index.lookup
    (call_meets F.slot_int_rmul (typeIs_int s k t) F.entry_int_rmul (F.args_int_rmul_2 _ _) (int_rmul_tuple k t l its.toArray n dd sl)
      ⟨ho, rfl, ⟨_, ho, rfl⟩, call_meets F.slot_tuple_mul ⟨_, ho, rfl⟩ F.entry_tuple_mul (F.args_tuple_mul_2 _ _) (tuple_mulS l its.toArray n dd sl k t c0 c1) ⟨ho, .ref l, H, I, rfl, q⟩⟩)
theorem op_repE : L2.OpR X (binaryOp .Mult) (rRepE X.K) := by
  intro pins s σ H x y v u Q I rx ry h
  obtain ⟨l, k, xs, rfl, rfl, hT, h1, h2, h3, q⟩ := h
  cases rx
  obtain ⟨t, rfl⟩ := ry
  obtain ⟨its, r, ⟨⟨cls, dd, data, sl⟩, ho, hc, n, hd⟩, hs⟩ := I.tuple hT
  simp only at hc hd
  subst hc hd
  have hle : its.length = xs.length := r.length.symm
  have hi : its.toArray.isEmpty = false := by
    cases its with
    | nil => exact absurd (List.eq_nil_of_length_eq_zero hle.symm) h3
    | cons a b => rfl
  have c0 : (decide (k < -(2 ^ 63)) || decide (k ≥ 2 ^ 63)) = false := by
    rw [decide_eq_false (by omega), decide_eq_false (by omega)] <;> rfl
  have c1 : (its.toArray.isEmpty || k == 1) = false := by
    rw [hi, Bool.false_or]
    exact beq_eq_false_iff_ne.mpr (by omega)
  have c2 : (decide (k ≤ 0) || its.toArray.isEmpty) = true := by
    rw [hi, Bool.or_false]
    exact decide_eq_true h2
  refine wpAny_binaryOp_repeat_ref (T := "tuple") (U := "int") (by decide) ⟨_, ho, rfl⟩ (fun s' => typeIs_int s' k t) noFill_tuple_mul F.fills_int_mul F.slot_int_rmul repeat_tuple F.slot_int_index.lookup
    (call_meets F.slot_int_rmul (typeIs_int s k t) F.entry_int_rmul (F.args_int_rmul_2 _ _) (int_rmul_tuple k t l its.toArray n dd sl)
      ⟨ho, rfl, ⟨_, ho, rfl⟩, call_meets F.slot_tuple_mul ⟨_, ho, rfl⟩ F.entry_tuple_mul (F.args_tuple_mul_2 _ _) (tuple_mulE l its.toArray n dd sl k t c0 c1 c2) ⟨ho, ?_⟩⟩)
  refine ⟨.ref s.heap.objs.size, _, I.laid (t' := s.toks) (o := .tup []) (fun b ob q => Heap.get?_push_of_some _ q) (Nat.le_refl _) ?_, rfl, q _ (I.hok.fresh (Nat.le_refl _))⟩
  exact ⟨by show 0 ≤ sizeLine; decide, [], .nil, IsTup.new _ _⟩
/-- x * k: ints, a tuple or a list by an int -/
noncomputable def dMulX (x y : PyData) : Option PyData := match x, y with
  | .int i, .int j => if CMul i j then some (.int (i * j)) else none
  | .tuple xs, .int k => if -1000 ≤ k ∧ k ≤ 1000 ∧ xs.length ≤ 1000 then some (.tuple (List.replicate k.toNat xs).flatten) else none
  | .list xs, .int k => if 0 ≤ k ∧ k ≤ 1000 ∧ xs.length ≤ 1000 then some (.list (List.replicate k.toNat xs).flatten) else none
  | _, _ => none
def rMulX (K : PySem.W.Frag) : R2 := fun x y H Q => rMulA K x y H Q ∨ rRepS K x y H Q ∨ rRepE K x y H Q
theorem opMulX (hK : X.K = K) : L2.OpR X (binaryOp .Mult) (rMulX K) := by subst hK; exact (opMul rfl).or (op_repS.or op_repE)
theorem vMulX : V2 K (rMulX K) dMulX := fun G H v w x y z e rx ry q Q k => by
  have old : ∀ z', dMul x y = some z' → (z' = z) → rMulX K v w H Q := fun z' h1 h2 => .inl (vMul G H v w x y z' e rx ry h1 Q (by rw [h2]; exact k))
  unfold dMulX at q
  split at q
  · exact old _ q rfl
  · rename_i xs j
    split at q
    · rename_i hc
      cases q
      have hR : Rp K G v (.tuple xs) := by
        rcases rx with h | ⟨_, _, _, h, _⟩
        · exact h
        · cases h
      cases hR with
      | tup ht ha =>
        have hj : w = .int j := ry.int
        subst hj
        by_cases h0 : xs = []
        · subst h0
          cases ha
          refine .inr (.inl ⟨_, j, [], rfl, rfl, e.st ht, by omega, by omega, .inl rfl, k _ H G (.refl e) (.tup ht ?_)⟩)
          have : ∀ n : Nat, (List.replicate n ([] : List PyData)).flatten = [] := fun n => by induction n with
            | zero => rfl
            | succ n ih => rw [List.replicate_succ, List.flatten_cons, ih]; rfl
          rw [this]; exact .nil
        · by_cases h1 : j = 1
          · subst h1
            refine .inr (.inl ⟨_, 1, _, rfl, rfl, e.st ht, by omega, by omega, .inr rfl, k _ H G (.refl e) (.tup ht ?_)⟩)
            have : (List.replicate (1 : Int).toNat xs).flatten = xs := by simp
            rw [this]; exact ha
          · by_cases h2 : 2 ≤ j
            · exact old _ (by unfold dMul; simp only; rw [if_pos ⟨h0, h2, hc.2.1, hc.2.2⟩]) rfl
            · refine .inr (.inr ⟨_, j, _, rfl, rfl, e.st ht, by omega, by omega, fun q => h0 ?_, fun p hp => ?_⟩)
              · have := ha.length; rw [q] at this; exact List.eq_nil_of_length_eq_zero this.symm
              · have px := PX.laid (o := .tup []) e hp
                refine k _ _ _ px (.tup (.inl (.inl upd_same)) ?_)
                have : j.toNat = 0 := by omega
                rw [this]; exact .nil
    · cases q
  · exact old _ q rfl
  · cases q

def insU (x : Int) : List Int → List Int
  | [] => [x]
  | y :: r => if x < y then x :: y :: r else if x = y then y :: r else y :: insU x r
def setI : List Int → List Int
  | [] => []
  | x :: r => insU x (setI r)
theorem insU_mem (x k : Int) : ∀ l : List Int, k ∈ insU x l ↔ k = x ∨ k ∈ l
  | [] => by simp [insU]
  | y :: r => by
    unfold insU
    split
    · simp
    · split
      · rename_i h; subst h
        simp
      · simp only [List.mem_cons, insU_mem x k r]
        constructor
        · rintro (h | h | h)
          · exact .inr (.inl h)
          · exact .inl h
          · exact .inr (.inr h)
        · rintro (h | h | h)
          · exact .inr (.inl h)
          · exact .inl h
          · exact .inr (.inr h)
theorem setI_mem (k : Int) : ∀ l : List Int, k ∈ setI l ↔ k ∈ l
  | [] => by simp [setI]
  | x :: r => by
    show k ∈ insU x (setI r) ↔ _
    rw [insU_mem, setI_mem k r, List.mem_cons]
theorem insU_sorted (x : Int) : ∀ l : List Int, l.Pairwise (· < ·) → (insU x l).Pairwise (· < ·)
  | [], _ => by simp [insU]
  | y :: r, h => by
    have h' := List.pairwise_cons.mp h
    unfold insU
    split
    · rename_i hxy
      refine List.pairwise_cons.mpr ⟨fun z hz => ?_, h⟩
      rcases List.mem_cons.mp hz with rfl | hz
      · exact hxy
      · exact Int.lt_trans hxy (h'.1 z hz)
    · split
      · exact h
      · rename_i hxy hne
        refine List.pairwise_cons.mpr ⟨fun z hz => ?_, insU_sorted x r h'.2⟩
        rcases (insU_mem x z r).mp hz with rfl | hz
        · omega
        · exact h'.1 z hz
theorem setI_sorted : ∀ l : List Int, (setI l).Pairwise (· < ·)
  | [] => .nil
  | x :: r => insU_sorted x _ (setI_sorted r)
theorem strict_unique : ∀ {l m : List Int}, l.Pairwise (· < ·) → m.Pairwise (· < ·) → (∀ k, k ∈ l ↔ k ∈ m) → l = m
  | [], [], _, _, _ => rfl
  | [], y :: m, _, _, h => by have := (h y).mpr (by simp); simp at this
  | x :: l, [], _, _, h => by have := (h x).mp (by simp); simp at this
  | x :: l, y :: m, h1, h2, h => by
    have a := List.pairwise_cons.mp h1
    have b := List.pairwise_cons.mp h2
    have e : x = y := by
      have m1 : x ∈ y :: m := (h x).mp (by simp)
      have m2 : y ∈ x :: l := (h y).mpr (by simp)
      rcases List.mem_cons.mp m1 with q | q
      · exact q
      · rcases List.mem_cons.mp m2 with q' | q'
        · exact q'.symm
        · have := b.1 x q
          have := a.1 y q'
          omega
    subst e
    rw [strict_unique a.2 b.2 fun k => ?_]
    constructor
    · intro hk
      rcases List.mem_cons.mp ((h k).mp (List.mem_cons_of_mem _ hk)) with rfl | q
      · have := a.1 k hk; omega
      · exact q
    · intro hk
      rcases List.mem_cons.mp ((h k).mpr (List.mem_cons_of_mem _ hk)) with rfl | q
      · have := b.1 k hk; omega
      · exact q

theorem insU_len (x : Int) : ∀ l : List Int, x ∉ l → (insU x l).length = l.length + 1
  | [], _ => rfl
  | y :: r, h => by
    have hy : x ≠ y := fun e => h (by simp [e])
    have hr : x ∉ r := fun e => h (List.mem_cons_of_mem _ e)
    unfold insU
    by_cases h1 : x < y
    · rw [if_pos h1]; rfl
    · rw [if_neg h1, if_neg hy]
      simp [insU_len x r hr]
theorem setI_len : ∀ l : List Int, l.Nodup → (setI l).length = l.length
  | [], _ => rfl
  | x :: r, h => by
    have h' := List.nodup_cons.mp h
    show (insU x (setI r)).length = _
    rw [insU_len x (setI r) fun e => h'.1 ((setI_mem x r).mp e), setI_len r h'.2]
    rfl
theorem setI_count {l ns : List Int} (h : l.Nodup) (hm : ∀ k, k ∈ l ↔ k ∈ ns) : l.length = (setI ns).length := by
  rw [← setI_len l h, strict_unique (setI_sorted l) (setI_sorted ns) fun k => by rw [setI_mem, setI_mem, hm k]]
/-! ### sorted(set(x)) -/
def rSetI (w : World) (K : PySem.W.Frag) : List V → Hp → VK → Prop := fun vs H Q => ∃ (a : Addr) (ns : List Int), vs = [V.ref a] ∧ SqT K H a (ns.map V.int) ∧ ns.length ≤ 1000 ∧
  ∀ p : Addr, H p = none → Q (.ref p) (upd H p (SetO w p (fun j => decide (j ∈ ns)) (setI ns).length))
theorem cr_setI (hc : X.calm = true) : CallR X (.type "set") (rSetI X.w X.K) := by
  intro pins s σ H vs us Q I r h
  obtain ⟨a, ns, rfl, ha, hl, q⟩ := h
  rw [Vals.ref1 r]
  obtain ⟨its, rv, p, hz⟩ := I.tuple ha
  refine call_set_tupI ns (I.ok.hd hc) p (intsAre_of rv) (Nat.lt_of_le_of_lt (Nat.succ_le_succ hl) (by unfold scanBound; omega)) fun h' tk c hR hcn hk => ?_
  have hc2 : c = (setI ns).length := by
    obtain ⟨o, es, ep, t, _, _, _, _, nd, mem, _, _, hn, _⟩ := id hR
    have e := setI_count (ns := ns) nd fun k => by rw [← mem k]; simp
    rw [← e]; simp [hn]
  subst hc2
  exact ⟨.ref s.heap.objs.size, upd H s.heap.objs.size (SetO X.w s.heap.objs.size (fun j => decide (j ∈ ns)) (setI ns).length), I.laid (t' := tk) hk (Nat.le_refl _) (setO_new hR), rfl, q _ (I.hok.fresh (Nat.le_refl _))⟩
end
def dSetL : List PyData → Option (List PyData)
  | [.tuple xs] => (dInts xs).bind fun ns => if ns.length ≤ 1000 ∧ (setI ns).length < 64 then some ((setI ns).map .int) else none
  | _ => none
section
variable {X : Cx} {K : PySem.W.Frag} {e : Expr} {tA : TA} {fs : AS}
theorem sem_sortSet {w : World} (ha : SemA K tA fs) : SemL K (tCB (rSortedSet w) (tCons (tCB (rSetI w K) tA) tNil)) (sCBL dSetL fs) := by
  intro F S σ H G o S' r ef Q k
  obtain ⟨⟨os, S1⟩, e1, ef⟩ := Option.bind_eq_some_iff.mp ef
  obtain ⟨xs, e3, ef⟩ := Option.bind_eq_some_iff.mp ef
  obtain ⟨z, e5, ef⟩ := Option.map_eq_some_iff.mp ef
  cases ef
  refine ha F S σ H G os _ r e1 _ fun vs H1 G1 r1 g1 h1 => ?_
  have hv := ops_get r1 h1 e3
  unfold dSetL at e5
  split at e5
  · obtain ⟨ns, e6, e7⟩ := Option.bind_eq_some_iff.mp e5
    split at e7
    · rename_i hl
      cases e7
      cases hv with
      | cons rv t =>
        cases t
        obtain ⟨a, ws, rfl, q2, q3⟩ := rv.tup r1.gh
        have hx := dInts_some e6
        subst hx
        have hw := q3.ints
        subst hw
        refine ⟨a, ns, rfl, q2, hl.1, fun p hp => ?_⟩
        show rSortedSet w [V.ref p] _ Q
        refine ⟨p, _, (setI ns).length, rfl, upd_same, hl.2, fun ms q hs hm hlm hq => ?_⟩
        have hms : ms = setI ns := strict_unique hs (setI_sorted ns) fun k => by rw [hm k, setI_mem]; simp
        subst hms
        have p1 := PX.side (o := SetO w p (fun j => decide (j ∈ ns)) (setI ns).length) r1.gh hp
        have r2 := r1.ext p1
        obtain ⟨f0, fg, fa⟩ := r2.fresh hq
        have p2 := PX.side (o := .lst ((setI ns).map V.int)) r2.gh hq
        exact k q _ _ _ (r2.ext p2) g1 f0 fg fa upd_same (RpAll.of_ints _)
    · cases e7
  · cases e5
theorem sl_sortSet {p1 p2 q1 q2 : Pos} (hK : X.K = K) (hc : X.calm = true) (hm1 : X.mg "sorted" = none) (hm2 : X.mg "set" = none) (hb1 : bootBuiltins "sorted" = some (.builtin "sorted")) (hb2 : bootBuiltins "set" = some (.type "set")) (ha : SA X K [e] tA fs) (hg1 : Gl X "sorted" := by rfl) (hg2 : Gl X "set" := by rfl)
    (he : starEach [e] X.env = (false, eval e X.env) :: starEach [] X.env := by rfl) (hpl : (backTo q2 (starEach [] X.env)).any (·.1) = false := by rfl)
    (he2 : starEach [.Call (.Name "set" p2) [e] [] q2] X.env = (false, eval (.Call (.Name "set" p2) [e] [] q2) X.env) :: starEach [] X.env := by rfl) (hpl2 : (backTo q1 (starEach [] X.env)).any (·.1) = false := by rfl) :
    SL X K (.Call (.Name "sorted" p1) [.Call (.Name "set" p2) [e] [] q2] [] q1) (tCB (rSortedSet X.w) (tCons (tCB (rSetI X.w K) tA) tNil)) (sCBL dSetL fs) := by
  subst hK
  refine ⟨?_, sem_sortSet ha.ok⟩
  exact pe_callB (cr_sortedSet hc) hg1 hm1 hb1 (pa_cons (pe_callTy (cr_setI hc) hg2 hm2 hb2 ha.p (by decide) (by decide) he hpl) pa_nil he2) (by decide) (by decide) he2 hpl2
end

/-! ### repr -/
section
variable {X : Cx} {K : PySem.W.Frag} {pins : List (Addr × Obj)} {σ : L2.St} {H : Hp} {s : Shared}
mutual
theorem readsN (I : Inv X pins σ H s) : ∀ {d : PyData} {v : V} {u : Value}, Rp X.K H v d → d.hasDict = false → RelV v u → ∃ as, Reads s.heap u d as
  | _, _, _, .non, _, r => by cases r; exact ⟨_, Reads.none⟩
  | _, _, _, .bl b, _, r => by cases r; exact ⟨_, Reads.bool b⟩
  | _, _, _, .int i, _, r => by obtain ⟨t, rfl⟩ := r; exact ⟨_, Reads.int i t⟩
  | _, _, _, .str x, _, r => by obtain ⟨t, rfl⟩ := r; exact ⟨_, Reads.str x t⟩
  | _, _, _, .lst h1 ha, c, r => by
    cases r
    obtain ⟨its, rv, ⟨o, n, ho, hc, _, hd⟩, _⟩ := I.list (.inl (.inl h1))
    obtain ⟨as, hr⟩ := readsNA I ha (by simpa [PyData.hasDict] using c) rv
    exact ⟨_, Reads.list ho hc hd hr⟩
  | _, _, _, .tup h1 ha, c, r => by
    cases r
    obtain ⟨its, rv, ⟨o, ho, hc, n, hd⟩, _⟩ := I.tuple h1
    obtain ⟨as, hr⟩ := readsNA I ha (by simpa [PyData.hasDict] using c) rv
    exact ⟨_, Reads.tuple ho hc hd hr⟩
  | _, _, _, .dic _ _, c, r => by simp [PyData.hasDict] at c
  | _, _, _, .scr _ _, c, r => by simp [PyData.hasDict] at c
theorem readsNA (I : Inv X pins σ H s) : ∀ {ds : List PyData} {vs : List V} {us : List Value}, RpAll X.K H vs ds → PyData.hasDictAll ds = false → Vals vs us → ∃ as, ReadsAll s.heap us ds as
  | _, _, _, .nil, _, r => by cases r; exact ⟨_, ReadsAll.nil⟩
  | _, _, _, .cons h1 h2, c, r => by
    have c' := Bool.or_eq_false_iff.mp (show (_ || _) = false by simpa [PyData.hasDictAll] using c)
    cases r with
    | cons r1 r2 =>
      obtain ⟨as, q1⟩ := readsN I h1 c'.1 r1
      obtain ⟨bs, q2⟩ := readsNA I h2 c'.2 r2
      exact ⟨_, ReadsAll.cons q1 q2⟩
end
mutual
/-- empty dicts within tuples -/
def eDict : PyData → Bool
  | .none => true
  | .bool _ => true
  | .int _ => true
  | .str _ => true
  | .tuple xs => eDictAll xs
  | .dict kvs => kvs.isEmpty
  | .list _ => false
def eDictAll : List PyData → Bool
  | [] => true
  | x :: xs => eDict x && eDictAll xs
end
mutual
theorem readsE (I : Inv X pins σ H s) : ∀ {d : PyData} {v : V} {u : Value}, Rp X.K H v d → eDict d = true → RelV v u → ∃ as, Reads s.heap u d as ∧ sysModules ∉ as
  | _, _, _, .non, _, r => by cases r; exact ⟨_, Reads.none, by simp⟩
  | _, _, _, .bl b, _, r => by cases r; exact ⟨_, Reads.bool b, by simp⟩
  | _, _, _, .int i, _, r => by obtain ⟨t, rfl⟩ := r; exact ⟨_, Reads.int i t, by simp⟩
  | _, _, _, .str x, _, r => by obtain ⟨t, rfl⟩ := r; exact ⟨_, Reads.str x t, by simp⟩
  | _, _, _, .lst h1 ha, c, r => by simp [eDict] at c
  | _, _, _, .tup h1 ha, c, r => by
    cases r
    obtain ⟨its, rv, ⟨o, ho, hc, n, hd⟩, _⟩ := I.tuple h1
    obtain ⟨as, hr, hs⟩ := readsEA I ha (by simpa [eDict] using c) rv
    exact ⟨_, Reads.tuple ho hc hd hr, hs⟩
  | _, _, _, .dic h1 h2, c, r => by
    cases r
    cases h2 with
    | nil =>
      obtain ⟨z, hn, vs, rel, dd⟩ := dk_rd I.hok h1
      cases rel
      obtain ⟨o, es, ep, ho, hex, hd, hl⟩ := dd
      have he : es.toList = [] := by cases q : es.toList with
        | nil => rfl
        | cons e r => have := hl.2.1; rw [q] at this; cases this
      have hc : o.cls = .type "dict" := hex.1
      refine ⟨_, Reads.dict ho hc hd (as := []) (bs := []) (by rw [he]; exact .nil) (by rw [he]; exact .nil), ?_⟩
      intro q
      simp only [List.append_nil, List.mem_singleton] at q
      rw [← q] at hn
      simp at hn
    | cons _ _ => simp [eDict] at c
  | _, _, _, .scr _ _, c, r => by simp [eDict] at c
theorem readsEA (I : Inv X pins σ H s) : ∀ {ds : List PyData} {vs : List V} {us : List Value}, RpAll X.K H vs ds → eDictAll ds = true → Vals vs us → ∃ as, ReadsAll s.heap us ds as ∧ sysModules ∉ as
  | _, _, _, .nil, _, r => by cases r; exact ⟨_, ReadsAll.nil, by simp⟩
  | _, _, _, .cons h1 h2, c, r => by
    have c' := Bool.and_eq_true_iff.mp (show (_ && _) = true by simpa [eDictAll] using c)
    cases r with
    | cons r1 r2 =>
      obtain ⟨as, q1, z1⟩ := readsE I h1 c'.1 r1
      obtain ⟨bs, q2, z2⟩ := readsEA I h2 c'.2 r2
      exact ⟨_, ReadsAll.cons q1 q2, by simp [z1, z2]⟩
end
def reprOk (d : PyData) : Bool := (!d.hasDict || eDict d) && d.showable && decide (d.shown.length ≤ 1000000) && decide (d.depth ≤ 60)
def dRepr : List PyData → Option PyData
  | [x] => if reprOk x = true then some (.str x.shown) else none
  | _ => none
def rRepr (K : PySem.W.Frag) : List V → Hp → VK → Prop := fun xs H Q => ∃ v d, xs = [v] ∧ Rp K H v d ∧ reprOk d = true ∧ Q (.str d.shown) H
theorem crRepr (hK : X.K = K) (hg : X.A.guards = some []) {k : Nat} (hr : Room k X.A) : CallR X (.builtin "repr") (rRepr K) := by
  subst hK
  intro pins s σ H xs us Q I r h
  obtain ⟨v, d, rfl, hd, ok, q⟩ := h
  have ok : (((!d.hasDict || eDict d) && d.showable) && decide (d.shown.length ≤ 1000000) && decide (d.depth ≤ 60)) = true := ok
  rw [Bool.and_eq_true, Bool.and_eq_true, Bool.and_eq_true, decide_eq_true_eq, decide_eq_true_eq] at ok
  obtain ⟨⟨⟨o1, o2⟩, o3⟩, o4⟩ := ok
  have hu : X.A.units + (d.depth + 1) < cLine := by have := hr.units; omega
  have hsz : d.shown.length ≤ sizeLine := Nat.le_trans o3 (by decide)
  have hrd : ∀ u, RelV v u → ∃ as, Reads s.heap u d as ∧ (d.hasDict = true → sysModules ∉ as) := fun u ru => by
    by_cases hdc : d.hasDict = true
    · rw [hdc] at o1
      obtain ⟨as, h1, h2⟩ := readsE I hd (by simpa using o1) ru
      exact ⟨as, h1, fun _ => h2⟩
    · obtain ⟨as, h1⟩ := readsN I hd (by simpa using hdc) ru
      exact ⟨as, h1, fun z => absurd z hdc⟩
  cases r with
  | cons r t =>
    cases t
    obtain ⟨as, h1, h2⟩ := hrd _ r
    cases h1 with
    | none => exact PySem.P.repr_of_none ⟨.str _, H, I.tok _, ⟨_, rfl⟩, by simpa [PyData.shown] using q⟩
    | bool b => exact PySem.P.repr_of_bool ⟨.str _, H, I.tok _, ⟨_, rfl⟩, by simpa [PyData.shown] using q⟩
    | int i t => exact PySem.P.repr_of_int (by simpa [PyData.showable] using o2) ⟨.str _, H, I.tok _, ⟨_, rfl⟩, by simpa [PyData.shown] using q⟩
    | str x t => exact PySem.P.repr_of_str ⟨.str _, H, I.tok _, ⟨_, rfl⟩, by simpa [PyData.shown] using q⟩ (by simpa [PyData.shown] using hsz)
    | list a b c e => exact repr_of_reads' (.list a b c e) o2 h2 hg hu (fun _ _ z => z) (fun h' u tk hk => ⟨.str _, H, I.kept hk, ⟨_, rfl⟩, q⟩) hsz
    | tuple a b c e => exact repr_of_reads' (.tuple a b c e) o2 h2 hg hu (fun _ _ z => z) (fun h' u tk hk => ⟨.str _, H, I.kept hk, ⟨_, rfl⟩, q⟩) hsz
    | dict a b c e f => exact repr_of_reads' (.dict a b c e f) o2 h2 hg hu (fun _ _ z => z) (fun h' u tk hk => ⟨.str _, H, I.kept hk, ⟨_, rfl⟩, q⟩) hsz
theorem vRepr : VN K (rRepr K) dRepr := fun G H vs xs z e rs q Q k => by
  unfold dRepr at q
  split at q
  · split at q
    · rename_i hc
      cases q
      cases rs with
      | cons r t => cases t; exact ⟨_, _, rfl, r.rp e, hc, k _ H G (.refl e) (.str _)⟩
    · cases q
  · cases q
end
end DL

set_option Elab.async false
set_option linter.all false
set_option maxRecDepth 100000
set_option maxHeartbeats 4000000
/-! DL, part 10: methods of lists, stores, statements, comprehensions for the text. -/
namespace DL
open PySem PySem.Spec PyProof.Rows L2

/-! ### values of any kind -/
abbrev VS := List SD → Option (SD × List SD)
def SemV (K : PySem.W.Frag) (t : TE) (f : VS) : Prop := ∀ F S σ H G s S', SR K F S σ H G → f S = some (s, S') → ∀ Q : VK, (∀ v H' G', SR K F S' σ H' G' → Ex G G' → s ≠ .un → (∀ xs, s ≠ .own true xs) → ResR K F S' σ H' G' v s → Q v H') → t σ H Q
structure SV (X : Cx) (K : PySem.W.Frag) (e : Expr) (t : TE) (f : VS) : Prop where
  p : PE X e t
  ok : SemV K t f
def vD (fd : DS) : VS := fun S => (fd S).map fun p => (.d p.1, p.2)
def vL (fl : LS) : VS := fun S => (fl S).map fun p => (.own false p.1, p.2)
section
variable {K : PySem.W.Frag} {te ta : TE} {fd : DS} {fl : LS} {fv fw : VS} {F : Fr} {S S' : List SD} {σ σ' : L2.St} {H G H' G' : Hp} {X : Cx} {e : Expr}
theorem sem_vD (h : SemD K te fd) : SemV K te (vD fd) := fun F S σ H G s S' r ef Q k => by
  obtain ⟨⟨x, S1⟩, e1, e2⟩ := Option.map_eq_some_iff.mp ef
  cases e2
  exact h F S σ H G x _ r e1 Q fun v H1 G1 r1 g1 h1 => k v H1 G1 r1 g1 (by simp) (by simp) h1
theorem sem_vL (h : SemL K te fl) : SemV K te (vL fl) := fun F S σ H G s S' r ef Q k => by
  obtain ⟨⟨x, S1⟩, e1, e2⟩ := Option.map_eq_some_iff.mp ef
  cases e2
  exact h F S σ H G x _ r e1 Q fun p vs H1 G1 r1 g1 f0 fg fa hh ha => k (.ref p) H1 G1 r1 g1 (by simp) (by simp) ⟨p, vs, rfl, f0, fg, fa, hh, ha⟩
theorem sv_d (h : SDt X K e te fd) : SV X K e te (vD fd) := ⟨h.p, sem_vD h.ok⟩
theorem sv_l (h : SL X K e te fl) : SV X K e te (vL fl) := ⟨h.p, sem_vL h.ok⟩
theorem SR.setR (r : SR K F S σ H G) (i : Nat) {v : V} {s : SD} (n1 : s ≠ .un) (n2 : ∀ xs, s ≠ .own true xs) (h : ResR K F S σ H G v s) : SR K F (S.set i s) (σ.set i (some v)) H G := by
  cases s with
  | un => exact absurd rfl n1
  | d x => exact r.setD i h
  | own b xs =>
    cases b with
    | true => exact absurd rfl (n2 xs)
    | false =>
      obtain ⟨p, vs, rfl, f0, fg, fa, hh, ha⟩ := h
      exact r.setO i fg hh ha f0 fa
def sSetV (fv : VS) (i : Nat) : SSem := fun S => (fv S).map fun p => .nx (p.2.set i p.1)
theorem sem_setV {i : Nat} (h : SemV K te fv) : SemS K (tAsg te (gName i)) (sSetV fv i) := fun F S σ H G out r e D hD => by
  obtain ⟨⟨s, S1⟩, e1, e2⟩ := Option.map_eq_some_iff.mp e
  cases e2
  exact h F S σ H G s _ r e1 _ fun v H1 G1 r1 g1 n1 n2 hr => hD _ H1 G1 (r1.setR i n1 n2 hr) g1
def sRetVS (fv : VS) : SSem := fun S => (fv S).map fun p => .rt p.1 p.2
theorem sem_retVS (h : SemV K te fv) : SemS K (tRet te) (sRetVS fv) := fun F S σ H G out r e D hD => by
  obtain ⟨⟨s, S1⟩, e1, e2⟩ := Option.map_eq_some_iff.mp e
  cases e2
  refine h F S σ H G s _ r e1 _ fun v H1 G1 r1 g1 n1 n2 hr => hD v σ H1 G1 ?_ g1
  cases s with
  | un => exact absurd rfl n1
  | d x => exact r1.pushD hr
  | own b xs =>
    cases b with
    | true => exact absurd rfl (n2 xs)
    | false =>
      obtain ⟨p, vs, rfl, f0, fg, fa, hh, ha⟩ := hr
      exact r1.pushO f0 fg fa hh ha
/-! ### a, b = x, y -/
theorem wipe_nil (σ : L2.St) : wipe σ [] = σ := rfl
/-- the second value while the first one, new, lies aside -/
def asideV : SD → VS → VS
  | .own _ _, f => fun S => (f (borGo [] 0 S)).map fun p => (p.1, unbGo [] 0 S p.2)
  | _, f => f
theorem aside_ok {s1 : SD} {v : V} (n1 : s1 ≠ .un) (n2 : ∀ xs, s1 ≠ .own true xs) (h : SemV K ta fw) (r : SR K F S σ H G) (h1 : ResR K F S σ H G v s1) {s2 : SD} (ef : asideV s1 fw S = some (s2, S')) {Q : VK}
    (k : ∀ w H' G', SR K F S' σ H' G' → Ex G G' → s2 ≠ .un → (∀ xs, s2 ≠ .own true xs) → ResR K F S' σ H' G' v s1 → ResR K F S' σ H' G' w s2 → (∀ i j, i ≠ j → SR K F ((S'.set i s1).set j s2) ((σ.set i (some v)).set j (some w)) H' G') → Q w H') : ta σ H Q := by
  cases s1 with
  | un => exact absurd rfl n1
  | d x =>
    refine h F S σ H G s2 S' r ef Q fun w H1 G1 r1 g1 m1 m2 hr => ?_
    have hx : Rp K G1 v x := Rp.mono g1 h1
    refine k w H1 G1 r1 g1 m1 m2 hx hr fun i j hij => ?_
    have r2 := r1.setD i hx
    refine r2.setR j m1 m2 ?_
    cases s2 with
    | un => exact absurd rfl m1
    | d y => exact hr
    | own b ys =>
      cases b with
      | true => exact absurd rfl (m2 ys)
      | false =>
        obtain ⟨p, vs, rfl, f0, fg, fa, hh, ha⟩ := hr
        refine ⟨p, vs, rfl, f0, fg, fun m c zs q1 q2 => ?_, hh, ha⟩
        by_cases hm : i = m
        · subst hm
          by_cases hl : i < S'.length
          · rw [List.getElem?_set_self hl] at q1; cases q1
          · rw [List.getElem?_eq_none (by simpa using Nat.le_of_not_lt hl)] at q1; cases q1
        · rw [List.getElem?_set_ne hm] at q1 q2
          exact fa m c zs q1 q2
  | own b xs =>
    cases b with
    | true => exact absurd rfl (n2 xs)
    | false =>
      obtain ⟨p, vs, rfl, f0, fg, fa, hh, ha⟩ := h1
      obtain ⟨⟨s2', S2⟩, e1, e2⟩ := Option.map_eq_some_iff.mp ef
      have es2 : s2' = s2 := congrArg Prod.fst (Option.some.inj (congrArg some e2))
      have eS' : unbGo [] 0 S S2 = S' := congrArg Prod.snd e2
      subst es2 eS'
      have r' := r.sub []
      rw [wipe_nil] at r'
      refine h (Fr.blk [] S σ H G) _ σ H G s2' S2 r' e1 Q fun w H1 G1 r1 g1 m1 m2 hr => ?_
      obtain ⟨hD, gD⟩ := r.aside r1 hh fg fa
      have r2 := r.unsub r1
      have ap2 : Apart (unbGo [] 0 S S2) σ p := apart_unb fa
      have hr1 : ResR K F (unbGo [] 0 S S2) σ H1 G1 (.ref p) (.own false xs) := ⟨p, vs, rfl, f0, gD, ap2, hD, ha.mono g1⟩
      have r3 : ∀ i, SR K F ((unbGo [] 0 S S2).set i (.own false xs)) (σ.set i (some (.ref p))) H1 G1 := fun i => r2.setO i gD hD (ha.mono g1) f0 ap2
      cases s2' with
      | un => exact absurd rfl m1
      | d y => exact k w H1 G1 r2 g1 m1 m2 hr1 hr fun i j hij => (r3 i).setD j hr
      | own c ys =>
        cases c with
        | true => exact absurd rfl (m2 ys)
        | false =>
          obtain ⟨q, ws, rfl, z0, zg, za, zh, zz⟩ := hr
          have z0 : H q = none := z0
          have y0 : F.H0 q = none := by
            cases z : F.H0 q with
            | none => rfl
            | some o => exact absurd z0 (r.live q (by rw [z]; simp))
          have ya : Apart (unbGo [] 0 S S2) σ q := fun m c zs q1 q2 => by
            rcases unbGo_own [] S S2 0 m c zs q1 with ⟨hm, _⟩ | ⟨_, ⟨us, h1⟩, _⟩
            · simp at hm
            · obtain ⟨a, _, t1, _, t3, _⟩ := r.own m c us h1
              rw [q2] at t1; cases t1
              rw [z0] at t3; cases t3
          refine k (.ref q) H1 G1 r2 g1 m1 m2 hr1 ⟨q, ws, rfl, y0, zg, ya, zh, zz⟩ fun i j hij => ?_
          refine (r3 i).setO j zg zh zz y0 fun m c zs q1 q2 => ?_
          by_cases hm : i = m
          · subst hm
            by_cases hl : i < σ.length
            · rw [List.getElem?_set_self hl] at q2
              cases q2
              rw [hh] at z0; cases z0
            · rw [List.getElem?_eq_none (by simpa using Nat.le_of_not_lt hl)] at q2; cases q2
          · rw [List.getElem?_set_ne hm] at q1 q2
            exact ya m c zs q1 q2
def sPar (i j : Nat) (fv fw : VS) : SSem := fun S => (fv S).bind fun p => (asideV p.1 fw p.2).map fun q => .nx ((q.2.set i p.1).set j q.1)
theorem sem_par {i j : Nat} (hij : i ≠ j) (h1 : SemV K te fv) (h2 : SemV K ta fw) : SemS K (tPar i j (tCons te (tCons ta tNil))) (sPar i j fv fw) := fun F S σ H G out r e D hD => by
  obtain ⟨⟨s1, S1⟩, e1, e⟩ := Option.bind_eq_some_iff.mp e
  obtain ⟨⟨s2, S2⟩, e2, e3⟩ := Option.map_eq_some_iff.mp e
  cases e3
  refine h1 F S σ H G s1 S1 r e1 _ fun v H1 G1 r1 g1 n1 n2 hr => ?_
  refine aside_ok n1 n2 h2 r1 hr e2 fun w H2 G2 r2 g2 m1 m2 q1 q2 fin => ?_
  exact ⟨v, w, rfl, hD _ H2 G2 (fin i j hij) (g1.trans g2)⟩
/-- three data at once -/
def set3 (i j l : Nat) (S : List SD) : List PyData → Option Out
  | [x, y, z] => some (.nx (((S.set i (.d x)).set j (.d y)).set l (.d z)))
  | _ => none
def sPar3 (i j l : Nat) (fs : AS) : SSem := fun S => (sTakeA fs S).bind fun p => set3 i j l p.2 p.1
theorem sem_par3 {i j l : Nat} {tA : TA} {fs : AS} (h : SemA K tA fs) : SemS K (tPar3 i j l tA) (sPar3 i j l fs) := fun F S σ H G out r e D hD => by
  obtain ⟨⟨xs, S1⟩, e1, e⟩ := Option.bind_eq_some_iff.mp e
  refine take_A h r e1 fun vs H1 G1 r1 g1 hv => ?_
  have e : set3 i j l S1 xs = some out := e
  unfold set3 at e
  split at e
  · cases e
    cases hv with
    | cons a t => cases t with
      | cons b t => cases t with
        | cons c t =>
          cases t
          exact ⟨_, _, _, rfl, hD _ H1 G1 (((r1.setD i a).setD j b).setD l c) g1⟩
  · cases e
end

/-! ### methods of lists -/
/-- m(own list of slot i, the arguments): what comes out, what the list has become -/
def sMeth (i : Nat) (g : List PyData → List PyData → Option (PyData × List PyData)) (fs : AS) : ES := fun S => match S[i]? with
  | some (.own _ _) => (sTakeA fs S).bind fun p => match p.2[i]? with
    | some (.own b xs) => (g xs p.1).map fun z => (.dat z.1, p.2.set i (.own b z.2))
    | _ => none
  | _ => none
/-- a method's rule on values keeps to g -/
def VM (K : PySem.W.Frag) (r : V → List V → Hp → VK → Prop) (g : List PyData → List PyData → Option (PyData × List PyData)) : Prop :=
  ∀ (G H : Hp) (a : Addr) (us vs : List V) (xs ys zs : List PyData) (z : PyData), Ex G H → H a = some (.lst us) → G a = none → RpAll K G us xs → RpAll K G vs ys → g xs ys = some (z, zs) →
    ∀ Q : VK, (∀ u ws, RpAll K G ws zs → Rp K G u z → Q u (upd H a (.lst ws))) → r (.ref a) vs H Q
section
variable {K : PySem.W.Frag} {F : Fr} {S S' : List SD} {σ : L2.St} {H G : Hp} {r : V → List V → Hp → VK → Prop} {g : List PyData → List PyData → Option (PyData × List PyData)} {tA : TA} {fs : AS} {i : Nat}
theorem sem_meth (hr : VM K r g) (h : SemA K tA fs) : SemE K (tBM K "list" r (tVar i) tA) (sMeth i g fs) := fun F S σ H G o S' r0 ef Q k => by
  unfold sMeth at ef
  split at ef
  · rename_i b0 x0 e0
    obtain ⟨⟨ys, S1⟩, e1, ef⟩ := Option.bind_eq_some_iff.mp ef
    have ef : (match S1[i]? with
      | some (.own b xs) => (g xs ys).map fun z => (Op.dat z.1, S1.set i (.own b z.2))
      | _ => none) = some (o, S') := ef
    split at ef
    · rename_i b1 x1 e2
      obtain ⟨⟨z, zs⟩, e3, e4⟩ := Option.map_eq_some_iff.mp ef
      cases e4
      obtain ⟨a, us, q1, q2, q3, q4, _⟩ := r0.own i _ _ e0
      refine ⟨_, q1, .inl ⟨rfl, us, .inl (.inl q3)⟩, ?_⟩
      refine take_A h r0 e1 fun vs H1 G1 r1 g1 hv => ?_
      obtain ⟨a', us', p1, p2, p3, p4, _⟩ := r1.own i _ _ e2
      rw [q1] at p1
      cases p1
      refine hr G1 H1 a us' vs x1 ys zs z r1.gh p3 p2 p4 hv e3 Q fun u ws hw hu => ?_
      exact k u _ G1 (r1.write e2 q1 hw) g1 hu
    · cases ef
  · cases ef
theorem sem_meth0 (hr : VM K r g) : SemE K (tBM0 K "list" r (tVar i)) (sMeth i g sNil) := fun F S σ H G o S' r0 ef Q k => by
  unfold sMeth at ef
  split at ef
  · rename_i b0 x0 e0
    obtain ⟨⟨ys, S1⟩, e1, ef⟩ := Option.bind_eq_some_iff.mp ef
    have e1' : (([] : List PyData), S) = (ys, S1) := by
      have : some (([] : List PyData), S) = some (ys, S1) := e1
      exact Option.some.inj this
    cases e1'
    have ef : (match S[i]? with
      | some (.own b xs) => (g xs []).map fun z => (Op.dat z.1, S.set i (.own b z.2))
      | _ => none) = some (o, S') := ef
    rw [e0] at ef
    obtain ⟨⟨z, zs⟩, e3, e4⟩ := Option.map_eq_some_iff.mp ef
    cases e4
    obtain ⟨a, us, q1, q2, q3, q4, _⟩ := r0.own i _ _ e0
    refine ⟨_, q1, .inl ⟨rfl, us, .inl (.inl q3)⟩, ?_⟩
    exact hr G H a us [] x0 [] zs z r0.gh q3 q2 q4 .nil e3 Q fun u ws hw hu => k u _ G (r0.write e0 q1 hw) (.refl _) hu
  · cases ef
def mAppend : List PyData → List PyData → Option (PyData × List PyData)
  | xs, [y] => if xs.length < 100000 then some (.none, xs ++ [y]) else none
  | _, _ => none
theorem vAppend : VM K rAppend mAppend := fun G H a us vs xs ys zs z e h hg h1 h2 q Q k => by
  unfold mAppend at q
  split at q
  · split at q
    · rename_i hl
      cases q
      cases h2 with
      | cons r t => cases t; exact ⟨a, us, _, rfl, rfl, h, szl (by rw [h1.length]; exact hl), k _ _ (h1.append (.cons r .nil)) .non⟩
    · cases q
  · cases q
def mExtend : List PyData → List PyData → Option (PyData × List PyData)
  | xs, [.list ys] => if xs.length + ys.length ≤ 100000 then some (.none, xs ++ ys) else none
  | _, _ => none
theorem vExtend : VM K rExtend mExtend := fun G H a us vs xs ys zs z e h hg h1 h2 q Q k => by
  unfold mExtend at q
  split at q
  · split at q
    · rename_i hl
      cases q
      cases h2 with
      | cons r t =>
        cases t
        cases r with
        | lst p1 p2 => exact ⟨a, _, us, _, rfl, rfl, h, e _ _ p1, sz (by rw [h1.length, p2.length]; exact hl), k _ _ (h1.append p2) .non⟩
    · cases q
  · cases q
def mPop : List PyData → List PyData → Option (PyData × List PyData)
  | xs, [] => (xs[xs.length - 1]?).map fun y => (y, xs.dropLast)
  | xs, [.int i] => (ixN xs.length i).bind fun j => (xs[j]?).map fun y => (y, xs.eraseIdx j)
  | _, _ => none
theorem vPop0 : VM K rPop (fun xs ys => if ys.length = 0 then mPop xs ys else none) := fun G H a us vs xs ys zs z e h hg h1 h2 q Q k => by
  have q : (if ys.length = 0 then mPop xs ys else none) = some (z, zs) := q
  split at q
  · rename_i hl
    have : ys = [] := List.eq_nil_of_length_eq_zero hl
    subst this
    cases h2
    obtain ⟨y, q1, q2⟩ := Option.map_eq_some_iff.mp (show (xs[xs.length - 1]?).map (fun y => (y, xs.dropLast)) = some (z, zs) from q)
    cases q2
    obtain ⟨v, w1, w2⟩ := h1.get q1
    exact ⟨a, us, v, rfl, rfl, h, by rw [h1.length]; exact w1, k _ _ h1.dropLast w2⟩
  · cases q
theorem ixN_small {n : Nat} {i : Int} {j : Nat} (h : ixN n i = some j) (hn : n ≤ sizeLine) : seqIndex? i n = some j ∧ -(2 ^ 63) ≤ i ∧ i < 2 ^ 63 := by
  obtain ⟨h1, h2, h3, h4⟩ := ixN_seq h
  have h5 : (n : Int) < 2 ^ 63 := by
    have : sizeLine < 2 ^ 63 := by decide
    omega
  exact ⟨h1, by omega, by omega⟩
theorem vPopAt : VM K (fun x vs H Q => rPopAt x vs H Q) (fun xs ys => if xs.length ≤ 100000 ∧ ys.length = 1 then mPop xs ys else none) := fun G H a us vs xs ys zs z e h hg h1 h2 q Q k => by
  have q : (if xs.length ≤ 100000 ∧ ys.length = 1 then mPop xs ys else none) = some (z, zs) := q
  split at q
  · rename_i hl
    unfold mPop at q
    split at q
    · exact absurd hl.2 (by simp)
    · obtain ⟨j, q1, q2⟩ := Option.bind_eq_some_iff.mp q
      obtain ⟨y, q3, q4⟩ := Option.map_eq_some_iff.mp q2
      cases q4
      cases h2 with
      | cons r t =>
        cases t
        cases r
        obtain ⟨v, w1, w2⟩ := h1.get q3
        obtain ⟨s1, s2, s3⟩ := ixN_small q1 (sz hl.1)
        exact ⟨a, us, _, j, v, rfl, rfl, h, s2, s3, by rw [h1.length]; exact s1, w1, k _ _ (h1.eraseIdx j) w2⟩
    · cases q
  · cases q
end
/-- l.index(x) -/
def firstIx (d : PyData) : List PyData → Option Nat
  | [] => none
  | z :: r => if PyData.eqv z d = true then some 0 else (firstIx d r).map (· + 1)
theorem firstIx_ok {d : PyData} : ∀ {xs : List PyData} {j : Nat}, firstIx d xs = some j → (∃ z, xs[j]? = some z ∧ PyData.eqv z d = true) ∧ ∀ (m : Nat) (z : PyData), m < j → xs[m]? = some z → PyData.eqv z d = false
  | [], _, h => by cases h
  | z :: r, j, h => by
    unfold firstIx at h
    split at h
    · rename_i hz
      cases h
      exact ⟨⟨z, rfl, hz⟩, fun m _ hm => absurd hm (by omega)⟩
    · rename_i hz
      obtain ⟨k, h1, rfl⟩ := Option.map_eq_some_iff.mp h
      obtain ⟨⟨y, q1, q2⟩, q3⟩ := firstIx_ok h1
      refine ⟨⟨y, by simpa using q1, q2⟩, fun m z' hm hz' => ?_⟩
      cases m with
      | zero => simp at hz'; subst hz'; simpa using hz
      | succ m => exact q3 m z' (by omega) (by simpa using hz')
def dIndex (x y : PyData) : Option PyData := match x with
  | .list xs => if fitN 60 (.list xs) = true ∧ fitN 60 y = true then (firstIx y xs).map fun j => .int (j : Nat) else none
  | _ => none
def isList : PyData → Bool
  | .list _ => true
  | _ => false
def sIndex (fo fa : ES) : ES := fun S => (fo S).bind fun p => (p.1.get p.2).bind fun l => if isList l = true then (fa p.2).bind fun q => (p.1.get q.2).bind fun x => (q.1.get q.2).bind fun y => (dIndex x y).map fun z => (.dat z, q.2) else none
section
variable {K : PySem.W.Frag} {to ta : TE} {fo fa : ES}
theorem isList_some {x : PyData} (h : isList x = true) : ∃ xs, x = .list xs := by
  cases x with
  | list xs => exact ⟨xs, rfl⟩
  | _ => cases h
theorem sem_index (h1 : SemE K to fo) (h2 : SemE K ta fa) : SemE K (tBM K "list" (rIndexD K) to (tCons ta tNil)) (sIndex fo fa) := fun F S σ H G o S' r ef Q k => by
  obtain ⟨⟨o1, S1⟩, e1, ef⟩ := Option.bind_eq_some_iff.mp ef
  obtain ⟨l, e2, ef⟩ := Option.bind_eq_some_iff.mp ef
  have ef : (if isList l = true then (fa S1).bind fun q => (o1.get q.2).bind fun x => (q.1.get q.2).bind fun y => (dIndex x y).map fun z => (Op.dat z, q.2) else none) = some (o, S') := ef
  split at ef
  · rename_i hl
    obtain ⟨xs, rfl⟩ := isList_some hl
    obtain ⟨⟨o2, S2⟩, e3, ef⟩ := Option.bind_eq_some_iff.mp ef
    obtain ⟨x, e4, ef⟩ := Option.bind_eq_some_iff.mp ef
    obtain ⟨y, e5, ef⟩ := Option.bind_eq_some_iff.mp ef
    obtain ⟨z, e6, ef⟩ := Option.map_eq_some_iff.mp ef
    cases ef
    refine h1 F S σ H G o1 S1 r e1 _ fun v H1 G1 r1 g1 q1 => ?_
    obtain ⟨a, vs, rfl, p1, p2⟩ := (op_get r1 q1 e2).lst r1.gh
    refine ⟨.inl ⟨rfl, vs, .inl (.inl p1)⟩, ?_⟩
    refine h2 F S1 σ H1 G1 o2 _ r1 e3 _ fun w H2 G2 r2 g2 q2 => ?_
    show rIndexD K _ [w] H2 Q
    have hx := op_get r2 (q1.mono g2) e4
    have hy := op_get r2 q2 e5
    unfold dIndex at e6
    split at e6
    · split at e6
      · rename_i f
        obtain ⟨j, f1, f2⟩ := Option.map_eq_some_iff.mp e6
        cases f2
        obtain ⟨⟨z, z1, z2⟩, z3⟩ := firstIx_ok f1
        refine ⟨a, w, y, _, j, z, rfl, rfl, (hx.rp r2.gh).dp (fit_lay f.1), (hy.rp r2.gh).dp (fit_lay f.2), fit_shaped f.1, fit_shaped f.2, z1, z2, z3, k _ H2 G2 r2 (g1.trans g2) (.int _)⟩
      · cases e6
    · cases e6
  · cases ef
end
/-! ### a store -/
def setAt (i : Nat) (x : PyData) (k : Int) (S : List SD) : Option SD → Option (List SD)
  | some (.own b xs) => (ixN xs.length k).map fun j => S.set i (.own b (xs.set j x))
  | _ => none
def isOwnS : Option SD → Bool
  | some (.own _ _) => true
  | _ => false
theorem isOwnS_some {s : Option SD} (h : isOwnS s = true) : ∃ b xs, s = some (.own b xs) := by
  cases s with
  | none => cases h
  | some s => cases s with
    | own b xs => exact ⟨b, xs, rfl⟩
    | _ => cases h
def gsSub (i : Nat) (fi : ES) : GS := fun x S => if isOwnS (S[i]?) = true then (fi S).bind fun p => (p.1.get p.2).bind fun y => (dIntO y).bind fun k => setAt i x k p.2 (p.2[i]?) else none
theorem sem_gsub {K : PySem.W.Frag} {ti : TE} {fi : ES} {i : Nat} (h : SemE K ti fi) : SemG K (gSub (tVar i) ti rSetL) [] (gsSub i fi) := fun F S σ H G v x S' r hx e Q k => by
  have e : (if isOwnS (S[i]?) = true then (fi S).bind fun p => (p.1.get p.2).bind fun y => (dIntO y).bind fun k => setAt i x k p.2 (p.2[i]?) else none) = some S' := e
  split at e
  · rename_i ho
    obtain ⟨b0, x0, e0⟩ := isOwnS_some ho
    obtain ⟨a, us, t1, _⟩ := r.own i _ _ e0
    obtain ⟨⟨o1, S1⟩, e1, e⟩ := Option.bind_eq_some_iff.mp e
    obtain ⟨y, e2, e⟩ := Option.bind_eq_some_iff.mp e
    obtain ⟨n, e3, e⟩ := Option.bind_eq_some_iff.mp e
    have hy := dIntO_some e3
    subst hy
    have e : setAt i x n S1 (S1[i]?) = some S' := e
    cases e4 : S1[i]? with
    | none => rw [e4] at e; cases e
    | some sd =>
      rw [e4] at e
      cases sd with
      | own b xs =>
        obtain ⟨j, e5, e6⟩ := Option.map_eq_some_iff.mp e
        cases e6
        refine ⟨_, t1, ?_⟩
        refine h F S σ H G o1 S1 r e1 _ fun w H1 G1 r1 g1 q1 => ?_
        obtain ⟨a', us', p1, p2, p3, p4, _⟩ := r1.own i _ _ e4
        rw [t1] at p1
        cases p1
        refine ⟨a, us', n, j, rfl, (op_get r1 q1 e2).int, p3, by rw [p4.length]; exact e5, ?_⟩
        exact k σ _ G1 (r1.write e4 t1 (p4.set (hx.mono g1) j)) g1 (.refl _ _)
      | _ => cases e
  · cases e
end DL

set_option Elab.async false
set_option linter.all false
set_option maxRecDepth 100000
set_option maxHeartbeats 4000000
/-! DL, part 11: the rules for the text: methods, stores, statements, comprehensions. -/
namespace DL
open PySem PySem.Spec PyProof.Rows L2

section
variable {X : Cx} {K : PySem.W.Frag} {e o c : Expr} {es : List Expr} {pos apos cpos pos' : Pos} {te ta to ti : TE} {tt : TT} {tA : TA} {fe fa fo fi : ES} {fs : AS} {fl : LS} {fd : DS} {fv fw : VS} {fb : BS} {i j : Nat} {x y : Str}
theorem se_pv (i : Nat) {x : Str} {pos : Pos} (hN : X.N[i]? = some x := by rfl) (hv : Vis X.env.scope x := by first | exact .inl rfl | exact .inr (.inl rfl) | exact .inr (.inr rfl)) (hd : (x == ("__debug__" : Str)) = false := by decide) (hcd : (x == ("__classdict__" : Str)) = false := by decide) : SE X K (.Name x pos) (tVar i) (sVar i) := se_var (pe_var hN hv hd hcd)
/-! ### methods -/
theorem se_append (hK : X.K = K) (ho : SE X K o (tVar i) (sVar i)) (ha : SA X K [e] tA fs) (hbase : attributeBase o "append" X.env (eval o X.env) = eval o X.env := by rfl)
    (hfew : ((backTo cpos (starEach [e] X.env)).all (fun x => !x.1) && (backToKw cpos (keywordEach [] X.env)).all (fun x => x.1.isSome)
      && decide ([e].length + ([] : List Keyword).length + (if ([] : List Keyword).isEmpty then 0 else 1) < 30)) = true := by rfl)
    (hline : (apos.endLine == cpos.line) = true := by rfl) (hs : starEach [e] X.env = (false, eval e X.env) :: starEach [] X.env := by rfl) (hplain : (backTo cpos (starEach [] X.env)).any (·.1) = false := by rfl) :
    SE X K (.Call (.Attribute o "append" apos) [e] [] cpos) (tBM K "list" rAppend (tVar i) tA) (sMeth i mAppend fs) := by
  subst hK
  exact ⟨pe_bm PySem.F.plainAttrs_list PySem.F.slot_list_append PySem.F.type_list_append mt_append ho.p ha.p hbase hfew hline hs hplain, sem_meth vAppend ha.ok⟩
theorem se_extend (hK : X.K = K) (ho : SE X K o (tVar i) (sVar i)) (ha : SA X K [e] tA fs) (hbase : attributeBase o "extend" X.env (eval o X.env) = eval o X.env := by rfl)
    (hfew : ((backTo cpos (starEach [e] X.env)).all (fun x => !x.1) && (backToKw cpos (keywordEach [] X.env)).all (fun x => x.1.isSome)
      && decide ([e].length + ([] : List Keyword).length + (if ([] : List Keyword).isEmpty then 0 else 1) < 30)) = true := by rfl)
    (hline : (apos.endLine == cpos.line) = true := by rfl) (hs : starEach [e] X.env = (false, eval e X.env) :: starEach [] X.env := by rfl) (hplain : (backTo cpos (starEach [] X.env)).any (·.1) = false := by rfl) :
    SE X K (.Call (.Attribute o "extend" apos) [e] [] cpos) (tBM K "list" rExtend (tVar i) tA) (sMeth i mExtend fs) := by
  subst hK
  exact ⟨pe_bm PySem.F.plainAttrs_list PySem.F.slot_list_extend PySem.F.type_list_extend mt_extend ho.p ha.p hbase hfew hline hs hplain, sem_meth vExtend ha.ok⟩
def mPopAt : List PyData → List PyData → Option (PyData × List PyData) := fun xs ys => if xs.length ≤ 100000 ∧ ys.length = 1 then mPop xs ys else none
def mPop0 : List PyData → List PyData → Option (PyData × List PyData) := fun xs ys => if ys.length = 0 then mPop xs ys else none
theorem se_popAt (hK : X.K = K) (ho : SE X K o (tVar i) (sVar i)) (ha : SA X K [e] tA fs) (hbase : attributeBase o "pop" X.env (eval o X.env) = eval o X.env := by rfl)
    (hfew : ((backTo cpos (starEach [e] X.env)).all (fun x => !x.1) && (backToKw cpos (keywordEach [] X.env)).all (fun x => x.1.isSome)
      && decide ([e].length + ([] : List Keyword).length + (if ([] : List Keyword).isEmpty then 0 else 1) < 30)) = true := by rfl)
    (hline : (apos.endLine == cpos.line) = true := by rfl) (hs : starEach [e] X.env = (false, eval e X.env) :: starEach [] X.env := by rfl) (hplain : (backTo cpos (starEach [] X.env)).any (·.1) = false := by rfl) :
    SE X K (.Call (.Attribute o "pop" apos) [e] [] cpos) (tBM K "list" rPopAt (tVar i) tA) (sMeth i mPopAt fs) := by
  subst hK
  exact ⟨pe_bm PySem.F.plainAttrs_list PySem.F.slot_list_pop PySem.F.type_list_pop mt_popAt ho.p ha.p hbase hfew hline hs hplain, sem_meth vPopAt ha.ok⟩
theorem se_pop (hK : X.K = K) (ho : SE X K o (tVar i) (sVar i)) (hbase : attributeBase o "pop" X.env (eval o X.env) = eval o X.env := by rfl) (hline : (apos.endLine == cpos.line) = true := by rfl) :
    SE X K (.Call (.Attribute o "pop" apos) [] [] cpos) (tBM0 K "list" rPop (tVar i)) (sMeth i mPop0 sNil) := by
  subst hK
  exact ⟨pe_bm0 PySem.F.plainAttrs_list PySem.F.slot_list_pop PySem.F.type_list_pop mt_pop ho.p hbase hline, sem_meth0 vPop0⟩
theorem se_index (hK : X.K = K) {k : Nat} (hr : Room k X.A) (ho : SE X K o to fo) (ha : SE X K e ta fa) (hbase : attributeBase o "index" X.env (eval o X.env) = eval o X.env := by rfl)
    (hfew : ((backTo cpos (starEach [e] X.env)).all (fun x => !x.1) && (backToKw cpos (keywordEach [] X.env)).all (fun x => x.1.isSome)
      && decide ([e].length + ([] : List Keyword).length + (if ([] : List Keyword).isEmpty then 0 else 1) < 30)) = true := by rfl)
    (hline : (apos.endLine == cpos.line) = true := by rfl) (hs : starEach [e] X.env = (false, eval e X.env) :: starEach [] X.env := by rfl) (hplain : (backTo cpos (starEach [] X.env)).any (·.1) = false := by rfl) :
    SE X K (.Call (.Attribute o "index" apos) [e] [] cpos) (tBM K "list" (rIndexD K) to (tCons ta tNil)) (sIndex fo fa) := by
  subst hK
  exact ⟨pe_bm PySem.F.plainAttrs_list PySem.F.slot_list_index PySem.F.type_list_index (mt_indexD (by have := hr.un; omega)) ho.p (pa_cons ha.p pa_nil hs) hbase hfew hline hs hplain, sem_index ho.ok ha.ok⟩
/-! ### list(range), tuple(range) -/
abbrev RS := List SD → Option ((Int × Int) × List SD)
def SemR (K : PySem.W.Frag) (t : L2.St → Hp → (Int → Int → Hp → Prop) → Prop) (f : RS) : Prop := ∀ F S σ H G a b S', SR K F S σ H G → f S = some ((a, b), S') → ∀ Q : Int → Int → Hp → Prop, (∀ H' G', SR K F S' σ H' G' → Ex G G' → Q a b H') → t σ H Q
structure SRg (X : Cx) (K : PySem.W.Frag) (e : Expr) (t : L2.St → Hp → (Int → Int → Hp → Prop) → Prop) (f : RS) : Prop where
  p : PRg X e t
  ok : SemR K t f
def sRg1 (fe : ES) : RS := fun S => (fe S).bind fun p => (p.1.get p.2).bind fun x => (dIntO x).map fun n => ((0, n), p.2)
def sRg2 (fe fa : ES) : RS := fun S => (fe S).bind fun p => (fa p.2).bind fun q => (p.1.get q.2).bind fun x => (q.1.get q.2).bind fun y => (dIntO x).bind fun n => (dIntO y).map fun m => ((n, m), q.2)
theorem sem_rg1 (h : SemE K te fe) : SemR K (tRg1 te) (sRg1 fe) := fun F S σ H G a b S' r ef Q k => by
  obtain ⟨⟨o1, S1⟩, e1, ef⟩ := Option.bind_eq_some_iff.mp ef
  obtain ⟨x, e2, ef⟩ := Option.bind_eq_some_iff.mp ef
  obtain ⟨n, e3, ef⟩ := Option.map_eq_some_iff.mp ef
  cases ef
  have hx := dIntO_some e3
  subst hx
  refine h F S σ H G o1 _ r e1 _ fun v H1 G1 r1 g1 h1 => ?_
  exact ⟨_, (op_get r1 h1 e2).int, k H1 G1 r1 g1⟩
theorem sem_rg2 (h : SemE K te fe) (h2 : SemE K ta fa) : SemR K (tRg2 te ta) (sRg2 fe fa) := fun F S σ H G a b S' r ef Q k => by
  obtain ⟨⟨o1, S1⟩, e1, ef⟩ := Option.bind_eq_some_iff.mp ef
  obtain ⟨⟨o2, S2⟩, e2, ef⟩ := Option.bind_eq_some_iff.mp ef
  obtain ⟨x, e3, ef⟩ := Option.bind_eq_some_iff.mp ef
  obtain ⟨y, e4, ef⟩ := Option.bind_eq_some_iff.mp ef
  obtain ⟨n, e5, ef⟩ := Option.bind_eq_some_iff.mp ef
  obtain ⟨m, e6, ef⟩ := Option.map_eq_some_iff.mp ef
  cases ef
  have hx := dIntO_some e5
  subst hx
  have hy := dIntO_some e6
  subst hy
  refine h F S σ H G o1 S1 r e1 _ fun v H1 G1 r1 g1 h1 => ?_
  refine h2 F S1 σ H1 G1 o2 _ r1 e2 _ fun w H2 G2 r2 g2 q2 => ?_
  exact ⟨_, _, (op_get r2 (h1.mono g2) e3).int, (op_get r2 q2 e4).int, k H2 G2 r2 (g1.trans g2)⟩
theorem srg_1 {p : Pos} (hm : X.mg "range" = none) (ha : SE X K e te fe) (hg : Gl X "range" := by rfl) (na : starEach [e] X.env = (false, eval e X.env) :: starEach [] X.env := by rfl) : SRg X K (.Call (.Name "range" p) [e] [] pos) (tRg1 te) (sRg1 fe) := ⟨prg_1 hg hm ha.p na, sem_rg1 ha.ok⟩
theorem srg_2 {p : Pos} (hm : X.mg "range" = none) (ha : SE X K e te fe) (hb : SE X K c ta fa) (hg : Gl X "range" := by rfl) (na : starEach [e, c] X.env = (false, eval e X.env) :: starEach [c] X.env := by rfl) (nb : starEach [c] X.env = (false, eval c X.env) :: starEach [] X.env := by rfl) (hp : (backTo pos (starEach [c] X.env)).any (·.1) = false := by rfl) : SRg X K (.Call (.Name "range" p) [e, c] [] pos) (tRg2 te ta) (sRg2 fe fa) := ⟨prg_2 hg hm ha.p hb.p na nb hp, sem_rg2 ha.ok hb.ok⟩
def rgB (a b : Int) : Bool := decide (-(2 ^ 62) ≤ a) && decide (a < 2 ^ 62) && decide (-(2 ^ 62) ≤ b) && decide (b < 2 ^ 62) && decide ((b - a).toNat ≤ 2 ^ 24)
theorem rgB_ok {a b : Int} (h : rgB a b = true) : RgOk a b := by
  simp only [rgB, Bool.and_eq_true, decide_eq_true_eq] at h
  exact ⟨h.1.1.1.1, h.1.1.1.2, h.1.1.2, h.1.2, h.2⟩
theorem RpAll.rg {G : Hp} (a b : Int) : RpAll K G (rgV a b) (rngD a (b - a).toNat) := by
  unfold rgV rngD
  generalize List.range (b - a).toNat = l
  induction l with
  | nil => exact .nil
  | cons n l ih => exact .cons (.int _) ih
def sLstRg (f : RS) : LS := fun S => (f S).bind fun p => if rgB p.1.1 p.1.2 = true then some (rngD p.1.1 (p.1.2 - p.1.1).toNat, p.2) else none
def sTupRg (f : RS) : ES := fun S => (f S).bind fun p => if rgB p.1.1 p.1.2 = true then some (.dat (.tuple (rngD p.1.1 (p.1.2 - p.1.1).toNat)), p.2) else none
variable {tr : L2.St → Hp → (Int → Int → Hp → Prop) → Prop} {fr : RS}
theorem sem_lstRg (h : SemR K tr fr) : SemL K (tLstRg tr) (sLstRg fr) := fun F S σ H G xs S' r ef Q k => by
  obtain ⟨⟨⟨a, b⟩, S1⟩, e1, ef⟩ := Option.bind_eq_some_iff.mp ef
  have ef : (if rgB a b = true then some (rngD a (b - a).toNat, S1) else none) = some (xs, S') := ef
  split at ef
  · rename_i hc
    cases ef
    refine h F S σ H G a b _ r e1 _ fun H1 G1 r1 g1 => ⟨rgB_ok hc, fun p hp => ?_⟩
    obtain ⟨f0, fg, fa⟩ := r1.fresh hp
    have px := PX.side (o := .lst (rgV a b)) r1.gh hp
    exact k _ _ _ _ (r1.ext px) g1 f0 fg fa upd_same (RpAll.rg a b)
  · cases ef
theorem sem_tupRg (h : SemR K tr fr) : SemE K (tTupRg tr) (sTupRg fr) := fun F S σ H G xs S' r ef Q k => by
  obtain ⟨⟨⟨a, b⟩, S1⟩, e1, ef⟩ := Option.bind_eq_some_iff.mp ef
  have ef : (if rgB a b = true then some (Op.dat (.tuple (rngD a (b - a).toNat)), S1) else none) = some (xs, S') := ef
  split at ef
  · rename_i hc
    cases ef
    refine h F S σ H G a b _ r e1 _ fun H1 G1 r1 g1 => ⟨rgB_ok hc, fun p hp => ?_⟩
    have px := PX.laid (o := .tup (rgV a b)) r1.gh hp
    exact k _ _ _ (r1.ext px) (g1.trans px.gg) (.tup (.inl (.inl upd_same)) (RpAll.rg a b))
  · cases ef
theorem sl_listRg {p : Pos} (hc : X.calm = true) (hm : X.mg "list" = none) (h : SRg X K e tr fr) (hg : Gl X "list" := by rfl) (na : starEach [e] X.env = (false, eval e X.env) :: starEach [] X.env := by rfl) : SL X K (.Call (.Name "list" p) [e] [] pos) (tLstRg tr) (sLstRg fr) := ⟨pe_listRg hc hg hm h.p na, sem_lstRg h.ok⟩
theorem se_tupRg {p : Pos} (hc : X.calm = true) (hm : X.mg "tuple" = none) (h : SRg X K e tr fr) (hg : Gl X "tuple" := by rfl) (na : starEach [e] X.env = (false, eval e X.env) :: starEach [] X.env := by rfl) : SE X K (.Call (.Name "tuple" p) [e] [] pos) (tTupRg tr) (sTupRg fr) := ⟨pe_tupRg hc hg hm h.p na, sem_tupRg h.ok⟩
/-! ### a target o[i] -/
theorem sg_sub (ho : SE X K o (tVar i) (sVar i)) (hi : SE X K e ti fi) (ha : ∀ v, assign (.Subscript o e pos) X.env v = (do
      let ov ← holding [v] (eval o X.env)
      let iv ← holding [v, ov] (eval e X.env)
      standAt pos
      holding [v, ov, iv] (setItem ov iv v)
      release [v, ov, iv] []) := by intro _; rfl) : SG X K (.Subscript o e pos) (gSub (tVar i) ti rSetL) [] (gsSub i fi) := ⟨pg_sub ho.p hi.p set_list ha, sem_gsub hi.ok⟩
/-! ### statements -/
theorem sss_nil : SSs X K [] tNext sNext := ⟨pss_nil, sem_next⟩
theorem sss_cons {st : Stmt} {rest : List Stmt} {t u : TS} {f g : SSem} (h1 : SS X K st t f) (h2 : SSs X K rest u g) : SSs X K (st :: rest) (tSeq t u) (sSeq f g) := ⟨pss_cons h1.p h2.p, sem_seq h1.ok h2.ok⟩
theorem sss_one {st : Stmt} {t : TS} {f : SSem} (h1 : SS X K st t f) : SSs X K [st] t f := ⟨pss_one h1.p, h1.ok⟩
theorem ss_pass : SS X K (.Pass pos) tNext sNext := ⟨ps_pass, sem_next⟩
theorem ss_break : SS X K (.Break pos) tBreak sBreak := ⟨ps_break, sem_break⟩
theorem ss_cont : SS X K (.Continue pos) tCont sCont := ⟨ps_continue, sem_cont⟩
theorem ss_never {st : Stmt} : SS X K st tNever sNever := ⟨ps_never, sem_never⟩
theorem sss_never {sts : List Stmt} : SSs X K sts tNever sNever := ⟨pss_never, sem_never⟩
theorem ss_doc {x : Str} {j} : SS X K (.Expr (.Constant (.str x) j pos) pos') tNext sNext := ⟨ps_doc, sem_next⟩
theorem ss_expr (he : SE X K e te fe) (hs : swapsWith e none pos.line X.env = pure false := by rfl) : SS X K (.Expr e pos) (tDrop te) (sDrop fe) := ⟨ps_expr he.p hs, sem_drop he.ok⟩
theorem ss_ret (he : SV X K e te fv) : SS X K (.Return (some e) pos) (tRet te) (sRetVS fv) := ⟨ps_ret he.p, sem_retVS he.ok⟩
theorem ss_retV (he : SE X K e (tVar i) (sVar i)) : SS X K (.Return (some e) pos) (tRet (tVar i)) (sRetV i) := ⟨ps_ret he.p, sem_retV⟩
theorem ss_retN : SS X K (.Return none pos) tRetN sRetN := ⟨ps_retN, sem_retN⟩
theorem ss_if {a b : List Stmt} {t u : TS} {f g : SSem} (hc : ST X K c tt fb) (ha : SSs X K a t f) (hb : SSs X K b u g) : SS X K (.If c a b pos) (tIfS tt t u) (sIf fb f g) := ⟨ps_if hc.p ha.p hb.p, sem_ifS hc.ok ha.ok hb.ok⟩
theorem ss_set (hN : X.N.Nodup) (he : SV X K e te fv) (hi : X.N[i]? = some x := by rfl) (hx : Loc X.env.scope x := by first | exact Or.inl rfl | exact Or.inr rfl) (hs : swapsWith e (some (.Name x pos')) pos.line X.env = pure false := by rfl)
    (hf : X.fn x = true ∨ X.env.scope.names.lookup x = some .local := by first | exact Or.inl rfl | exact Or.inr rfl) : SS X K (.Assign [.Name x pos'] e pos) (tAsg te (gName i)) (sSetV fv i) := ⟨ps_set hN hi hx he.p hs hf, sem_setV he.ok⟩
theorem ss_asg {tg : Expr} {g : TG} {ix : List Nat} {gs : GS} (he : SDt X K e te fd) (hg : SG X K tg g ix gs) (hs : swapsWithSole [tg] e pos.line X.env = pure false := by rfl) (hw : swappedStores [tg] e X.env = pure none := by rfl)
    (h1 : (assignEach [tg] X.env).map (·.2) = [assign tg X.env] := by rfl) : SS X K (.Assign [tg] e pos) (tAsg te g) (sAsg fd gs) := ⟨ps_asg he.p hg.p hs hw h1, sem_asg he.ok hg.ok⟩
theorem ss_par {a b : Expr} {px py pt : Pos} {kt k2 pt2} (hc : X.calm = true) (hN : X.N.Nodup) (hij : i ≠ j) (h1 : SV X K a te fv) (h2 : SV X K b ta fw) (hi : X.N[i]? = some x := by rfl) (hj : X.N[j]? = some y := by rfl)
    (hx : X.env.scope.names.lookup x = some .local := by rfl) (hy : X.env.scope.names.lookup y = some .local := by rfl) (hsa : starEach [a, b] X.env = (false, eval a X.env) :: starEach [b] X.env := by rfl) (hsb : starEach [b] X.env = (false, eval b X.env) :: starEach [] X.env := by rfl)
    (hw : swappedStores [.Tuple [.Name x px, .Name y py] kt pt] (.Tuple [a, b] k2 pt2) X.env = pure (some [x, y]) := by rfl)
    (hs : swapsWithSole [.Tuple [.Name x px, .Name y py] kt pt] (.Tuple [a, b] k2 pt2) pos.line X.env = pure false := by rfl) :
    SS X K (.Assign [.Tuple [.Name x px, .Name y py] kt pt] (.Tuple [a, b] k2 pt2) pos) (tPar i j (tCons te (tCons ta tNil))) (sPar i j fv fw) := ⟨ps_par hc hN hi hj hij hx hy (pa_cons h1.p (pa_cons h2.p pa_nil hsb) hsa) hw hs, sem_par hij h1.ok h2.ok⟩
theorem ss_for {tg iter : Expr} {body : List Stmt} {wi : TI} {g : TG} {ix : List Nat} {gs : GS} {tb : TS} {fB : SSem} (hp : PassesOwn (model X.prog X.w) X.A X.env X.xe) (hc : X.calm = true) (hi : SI X K tg iter wi fl) (hg : SG X K tg g ix gs) (hb : SSs X K body tb fB)
    (hs : ∀ x, foldedSetIterable iter X.env x = pure x := by intro _; rfl) : SS X K (.For tg iter body [] pos) (tFor wi g tb) (sFor fl gs fB) := ⟨ps_for hp hc hi.p hg.p hb.p hs, sem_for hi.ok hg.ok hb.ok⟩
theorem ss_while (n : Nat) {body : List Stmt} {tb : TS} {fB : SSem} (hp : PassesOwn (model X.prog X.w) X.A X.env X.xe) (hc : ST X K c tt fb) (hb : SSs X K body tb fB) : SS X K (.While c body [] pos) (tWhile tt tb) (sWhile n fb fB) := ⟨ps_while hp hc.p hb.p, sem_while hc.ok hb.ok⟩
/-! ### comprehensions -/
structure STs (X : Cx) (K : PySem.W.Frag) (ifs : List Expr) (t : TT) (f : BS) : Prop where
  p : PTs X ifs t
  ok : SemB K t f
theorem sts_nil : STs X K [] tYes sYes := ⟨pts_nil, sem_yes⟩
theorem sts_one (h : ST X K c tt fb) : STs X K [c] tt fb := ⟨pts_one h.p, h.ok⟩
variable {elt tg iter : Expr} {ifs : List Expr} {scope : Scope} {spos : Pos} {wi : TI} {g : TG} {ix : List Nat} {gs : GS} {py : Pos}
theorem sl_lc (own : List (Str × Nat)) (vs : List Nat) (hc : X.calm = true) (hN : X.N.Nodup) (hi : SI X K tg iter wi fl) (ok : blkC X.N X.env.scope scope own = true)
    (hg : ∀ (s : Shared) (H : Hp) (C : Addr) (cl : List (Str × Addr)) (fp : List Addr), SG (X.blk s H scope (compEnvC scope cl C X.env) fp) K tg g ix gs) (ht : ∀ (s : Shared) (H : Hp) (C : Addr) (cl : List (Str × Addr)) (fp : List Addr), STs (X.blk s H scope (compEnvC scope cl C X.env) fp) K ifs tt fb)
    (he : ∀ (s : Shared) (H : Hp) (C : Addr) (cl : List (Str × Addr)) (fp : List Addr), SDt (X.blk s H scope (compEnvC scope cl C X.env) fp) K elt te fd) (hv : own.map (·.2) = vs := by rfl) (hix : ∀ i ∈ ix, i ∈ vs := by decide) (hs : ∀ x, foldedSetIterable iter X.env x = pure x := by intro _; rfl) :
    SL X K (.ListComp elt [⟨tg, iter, ifs, 0⟩] scope pos) (tLc wi g tt te vs) (sLC vs fl gs fb fd) := by
  subst hv
  have s0 : Shared := X.s_0
  exact ⟨pe_lc hc hN hi.p (blkOk_by ok) (fun s H C cl fp => (hg s H C cl fp).p) (fun s H C cl fp => (ht s H C cl fp).p) (fun s H C cl fp => (he s H C cl fp).p) hs,
    sem_lc hi.ok (hg s0 X.H_0 0 [] []).ok hix (ht s0 X.H_0 0 [] []).ok (he s0 X.H_0 0 [] []).ok⟩
/-- name = [..]: the slot is given the new list, as its own or standing still (b) -/
def vLC (b : Bool) (fl : LS) : VS := if b then vD (sTake (sKeep fl)) else vL fl
theorem sem_vLC {b : Bool} (h : SemL K te fl) : SemV K te (vLC b fl) := by
  cases b with
  | true => exact sem_vD (sem_take (sem_keep h))
  | false => exact sem_vL h
theorem ss_setLc (b : Bool) (own : List (Str × Nat)) (vs : List Nat) (hc : X.calm = true) (hN : X.N.Nodup) (hi : SI X K tg iter wi fl) (ok : blkC X.N X.env.scope scope own = true)
    (hg : ∀ (s : Shared) (H : Hp) (C : Addr) (cl : List (Str × Addr)) (fp : List Addr), SG (X.blk s H scope (compEnvC scope cl C X.env) fp) K tg g ix gs) (ht : ∀ (s : Shared) (H : Hp) (C : Addr) (cl : List (Str × Addr)) (fp : List Addr), STs (X.blk s H scope (compEnvC scope cl C X.env) fp) K ifs tt fb)
    (he : ∀ (s : Shared) (H : Hp) (C : Addr) (cl : List (Str × Addr)) (fp : List Addr), SDt (X.blk s H scope (compEnvC scope cl C X.env) fp) K elt te fd) (hsw : swapsWith (.ListComp elt [⟨tg, iter, ifs, 0⟩] scope pos) (some (.Name y py)) spos.line X.env = pure true) (hy : X.N[i]? = some y := by rfl) (hyl : X.env.scope.names.lookup y = some .local := by rfl)
    (hv : own.map (·.2) = vs := by rfl) (hix : ∀ i ∈ ix, i ∈ vs := by decide) (hs : ∀ x, foldedSetIterable iter X.env x = pure x := by intro _; rfl) :
    SS X K (.Assign [.Name y py] (.ListComp elt [⟨tg, iter, ifs, 0⟩] scope pos) spos) (tAsg (tLc wi g tt te vs) (gName i)) (sSetV (vLC b (sLC vs fl gs fb fd)) i) := by
  subst hv
  have s0 : Shared := X.s_0
  exact ⟨ps_setLc hc hN hy hyl hsw hi.p (blkOk_by ok) (fun s H C cl fp => (hg s H C cl fp).p) (fun s H C cl fp => (ht s H C cl fp).p) (fun s H C cl fp => (he s H C cl fp).p) hs,
    sem_setV (sem_vLC (sem_lc hi.ok (hg s0 X.H_0 0 [] []).ok hix (ht s0 X.H_0 0 [] []).ok (he s0 X.H_0 0 [] []).ok))⟩
end
end DL

set_option Elab.async false
set_option linter.all false
set_option maxRecDepth 100000
set_option maxHeartbeats 4000000
/-! DL, part 12: the law's end; facts of built-ins. -/
namespace DL
open PySem PySem.Spec PyProof.Rows L2

theorem bt_isinstance : bootBuiltins "isinstance" = some (.builtin "isinstance") := by decide +kernel
theorem bt_all : bootBuiltins "all" = some (.builtin "all") := by decide +kernel
theorem bt_any : bootBuiltins "any" = some (.builtin "any") := by decide +kernel
theorem bt_sum : bootBuiltins "sum" = some (.builtin "sum") := by decide +kernel
theorem bt_max : bootBuiltins "max" = some (.builtin "max") := by decide +kernel
theorem bt_min : bootBuiltins "min" = some (.builtin "min") := by decide +kernel
theorem bt_abs : bootBuiltins "abs" = some (.builtin "abs") := by decide +kernel
theorem bt_len : bootBuiltins "len" = some (.builtin "len") := by decide +kernel
theorem bt_repr : bootBuiltins "repr" = some (.builtin "repr") := by decide +kernel
theorem bt_sorted : bootBuiltins "sorted" = some (.builtin "sorted") := by decide +kernel
theorem bt_divmod : bootBuiltins "divmod" = some (.builtin "divmod") := by decide +kernel
theorem bt_tuple : bootBuiltins "tuple" = some (.type "tuple") := by decide +kernel
theorem bt_list : bootBuiltins "list" = some (.type "list") := by decide +kernel
theorem bt_int : bootBuiltins "int" = some (.type "int") := by decide +kernel
theorem bt_set : bootBuiltins "set" = some (.type "set") := by decide +kernel
theorem bt_str : bootBuiltins "str" = some (.type "str") := by decide +kernel
theorem bt_bool : bootBuiltins "bool" = some (.type "bool") := by decide +kernel
theorem bt_dict : bootBuiltins "dict" = some (.type "dict") := by decide +kernel
theorem bt_range : bootBuiltins "range" = some (.type "range") := by decide +kernel

/-- the script as data -/
def scrD (ns : List Int) : PyData := .dict [(.none, .list (ns.map .int))]
/-- what the law's def is to hand back -/
def LawM (n : Nat) (m : Fn) : Prop := ∀ ns : List Int, ns.length ≤ n → m [.d (scrD ns)] = some (.d (.bool true), [.d (scrD ns)])

section
variable {P : Program} {w : World} {K : PySem.W.Frag} {mg mb : Str → Option Value} {k : Nat} {fa a : Addr} {fd : FuncData} {x : Str} {m : Fn} {s1 : Shared} {vs : List Value} {ns : List Int} {n : Nat}
theorem sr_script {H : Hp} (hS : SqL K H a (ns.map V.int)) : SR K ⟨H, H, [.d (scrD ns)], [V.ref a].map some⟩ [.d (scrD ns)] ([V.ref a].map some) H H := by
  refine ⟨rfl, .refl _, .refl _, fun b h => .inl h, fun b o h _ => h, fun b h => h, fun i y e => ?_, fun i b xs e => ?_, fun i j c b1 x1 b2 x2 e1 _ _ _ => ?_⟩
  · cases i with
    | zero => cases e; exact ⟨.ref a, rfl, .scr hS (RpAll.of_ints ns)⟩
    | succ i => simp at e
  · cases i with
    | zero => cases e
    | succ i => simp at e
  · cases i with
    | zero => cases e1
    | succ i => simp at e1
theorem law_callG (KX : K.In s1.heap) (hns : s1.heap.Ns mainGlobals mg) (hb : s1.heap.Ns builtinsNs mb) (hbb : ∀ x : Str, x ≠ "__name__" → mb x = bootBuiltins x) (hlim : s1.heap.NoLimit) (hg : s1.gens = #[])
    (ha : s1.heap.get? a = some { cls := .type "list", data := .seq vs.toArray }) (hi : IntsAre vs ns) (hl : ns.length ≤ sizeLine) (hn : ns.length ≤ n) (hr : Room k callerA)
    (F : ∀ base : Heap, K.In base → base.Ns mainGlobals mg → FnG P w K mg base k fa fd [x] m) (hbind : ∀ (s : Shared) (u : Value), BindsTo s fd ⟨[u], []⟩ [(x, u)]) (hm : LawM n m) :
    codeAny (model P w) callerA (.call (.ref fa) ⟨[.ref a], []⟩) (fun r s' => r = .ok (.ret (.bool true)) ∧ OldK s1.heap s'.heap ∧ s'.os = s1.os ∧ AllBare s'.gens) s1 := by
  have rv := vals_ints hi
  have lenV := hi.length
  have key : ∀ H : Hp, Only H → SqL K H a (ns.map V.int) → HOk P w H s1.heap → (∀ b, H b ≠ none → b = a ∧ K.lookup a = none) →
      codeAny (model P w) callerA (.call (.ref fa) ⟨[.ref a], []⟩) (fun r s' => r = .ok (.ret (.bool true)) ∧ OldK s1.heap s'.heap ∧ s'.os = s1.os ∧ AllBare s'.gens) s1 := by
    intro H hO hS hok hA
    have away : ∀ {b : Addr}, (b = a → False) → H b = none := fun {b} nb => by
      cases q : H b with
      | none => rfl
      | some u => exact (nb (hA b (by rw [q]; simp)).1).elim
    have nsK : ∀ {b : Addr} {f : Str → Option Value}, s1.heap.Ns b f → (hidT s1.heap H).Ns b f := fun {b f} ⟨o, es, ep, e, d, r⟩ => ⟨o, es, ep, hidT_get e (away fun z => by
      subst z
      rw [ha] at e; cases e
      have d' : Data.seq vs.toArray _ = Data.dict es ep := d
      cases d'), d, r⟩
    have hKb : K.In (hidT s1.heap H) := fun b o e => by
      refine hidT_get (KX b o e) ?_
      cases q : H b with
      | none => rfl
      | some u =>
        obtain ⟨z1, z2⟩ := hA b (by rw [q]; simp)
        rw [z1, z2] at e; cases e
    obtain ⟨mc, h1, h2⟩ := hlim
    have e0 : Env0 P w K mg (hidT s1.heap H) callerA [] s1 H :=
      ⟨rfl, ⟨hKb, nsK hns, ⟨mb, nsK hb, hbb⟩, ⟨mc, nsK h1, h2⟩⟩, fun b o e => of_hidT e, Nat.le_of_eq (hidT_size _ _), trivial, fun b hb => absurd (show b ∈ ([] : List Addr) from hb) (by simp), hok, .of_eq hg⟩
    have sp : spM K [x].length m [.ref a] H (fun v _ => v = .bl true) E0 := by
      refine ⟨_, H, _, _, rfl, sr_script hS, hm ns hn, fun v H' G' r => ?_⟩
      obtain ⟨u, q1, q2⟩ := r.dat 1 (.bool true) rfl
      cases q1
      cases q2
      rfl
    refine codeAny_mono ((F _ hKb (nsK hns)).run callerA [] s1 H ⟨[.ref a], []⟩ [.ref a] [.ref a] _ hr rfl e0 (hbind s1 (.ref a)) (.cons rfl .nil) sp) fun r s' h => ?_
    cases r with
    | error e => exact False.elim h
    | ok fl =>
      cases fl with
      | ret u =>
        obtain ⟨v, H', os, bare, un, hok', r', q⟩ := h
        subst q
        obtain rfl : u = Value.bool true := r'
        refine ⟨rfl, OldK.of_keep fun b o e => ?_, os, bare⟩
        cases q : H b with
        | none => exact un.keep b o e q (fun z => absurd (show b ∈ ([] : List Addr) from z) (by simp)) (by simp)
        | some u =>
          rcases hO b with z | ⟨ob, xs, z⟩
          · rw [q] at z; cases z
          · obtain ⟨e1, _⟩ := hok b _ z
            obtain ⟨e2, _⟩ := hok' b _ (un.frzs b ob _ z)
            rw [e] at e1; cases e1
            exact e2
      | next => exact False.elim h
      | brk => exact False.elim h
      | cont => exact False.elim h
  cases hk : K.lookup a with
  | some o =>
    have e := KX a o hk
    rw [ha] at e
    cases e
    exact key (fun _ => none) (fun _ => .inl rfl) (.inr ⟨_, vs.toArray, _, hk, rfl, rfl, rfl, by rw [List.size_toArray, lenV]; exact hl, by simpa using rv⟩) (fun b u z => by cases z) fun b z => absurd rfl z
  | none =>
    have hit : ∀ {b : Addr} {u : HO}, (if b = a then some (HO.frz { cls := .type "list", data := .seq vs.toArray } (.lst (ns.map V.int))) else none) = some u → b = a ∧ u = HO.frz { cls := .type "list", data := .seq vs.toArray } (.lst (ns.map V.int)) := fun {b u} z => by
      by_cases q : b = a
      · rw [if_pos q] at z; cases z; exact ⟨q, rfl⟩
      · rw [if_neg q] at z; cases z
    refine key (fun b => if b = a then some (.frz { cls := .type "list", data := .seq vs.toArray } (.lst (ns.map V.int))) else none) (fun b => ?_) (.inl (.inr ⟨_, if_pos rfl⟩)) (fun b u z => ?_) fun b z => ⟨?_, hk⟩
    · by_cases q : b = a
      · exact .inr ⟨_, _, if_pos q⟩
      · exact .inl (if_neg q)
    · obtain ⟨rfl, rfl⟩ := hit z
      exact ⟨ha, by rw [List.length_map]; exact hl, vs, _, rv, ha⟩
    · by_cases q : b = a
      · exact q
      · exact absurd (if_neg q) z
end
/-- the end: the law's def over every base -/
theorem walkG {l : PySem.W.OpenLaw} {n k : Nat} {q : Program} {loose : List Str} {XP : (Str → Option Value) → Heap → Prop} {YP : World → Heap → Prop} {d : DefRec} {K : Params → PySem.W.Frag} {m : Fn} {x : Str}
    (hn : l.most = some n) (hn2 : n ≤ sizeLine) (hdf : d.params.defaults = []) (hr : Room k callerA) (hY : ∀ (w : World) (h : Heap), YP w h → (K w.params).In h)
    (F : ∀ (w : World) (mg : Str → Option Value) (fa : Addr) (h : Heap), (K w.params).In h → h.Ns mainGlobals mg → mg d.name = some (.ref fa) →
      ∃ fd : FuncData, (∀ (s : Shared) (u : Value), BindsTo s fd ⟨[u], []⟩ [(x, u)]) ∧ ∀ base : Heap, (K w.params).In base → base.Ns mainGlobals mg → FnG l.prog w (K w.params) mg base k fa fd [x] m)
    (hm : LawM n m) : PySem.W.WalkO q loose XP YP l.row.toRowW d [] (fun f vs => PySem.call f vs) := by
  refine Att.attach_call hn hdf fun w s0 s1 mg mb fa o pm cd doc a vs ns G Y ho hd hcd hmg hobj hints hlen hg => ?_
  obtain ⟨fd, hb, hF⟩ := F w mg fa _ (hY w _ Y) G.T.g hmg
  exact law_callG (hY w _ Y) G.T.g G.T.b G.T.builtins G.T.nolimit hg hobj hints (Nat.le_trans hlen hn2) hlen hr hF hb hm
end DL

set_option Elab.async false
set_option linter.all false
set_option maxRecDepth 100000
set_option maxHeartbeats 4000000
/-! DL, part 13: empty dicts; calls by name. -/
namespace DL
open PySem PySem.Spec PyProof.Rows L2

def sDict0 : ES := fun S => some (.dat (.dict []), S)
section
variable {X : Cx} {K : PySem.W.Frag} {pos : Pos}
theorem sem_dict0 : SemE K tDNewK sDict0 := fun F S σ H G o S' r ef Q k => by
  cases ef
  intro p hp
  have px := PX.laid (o := .dK []) r.gh hp
  exact k _ _ _ (r.ext px) px.gg (.dic (.inl upd_same) .nil)
theorem se_dict0 : SE X K (.Dict [] [] pos) tDNewK sDict0 := ⟨pe_dnewK, sem_dict0⟩
theorem kwb {x qual : Str} {st : Stmt} {f : Addr} {fd : FuncData} {ps ks : List Str} {pm : List Nat} (F : Fun K x qual st f fd)
    (h : ∀ (kV doc pm' : Value) (an : Option Addr) (cdv ct : Value) (us ws : List Value), us.length + ks.length = ps.length → ws.length = ks.length → bindArgs (PySem.W.fnOf x qual (defArgs st) (defBody st) (defScope st) .none kV doc pm' an cdv ct) ⟨us, ks.zip ws⟩ = pure (ps.zip (perm pm (us ++ ws)))) : KwB K fd ps ks pm := by
  obtain ⟨oc, od, kV, doc, pm', an, cdv, ct, osl, rfl, lk, hcd⟩ := F.ex
  exact fun s us ws _ h1 h2 => .of_eq (h kV doc pm' an cdv ct us ws h1 h2)
end

/-! ### a call whose one argument is a new list that the def may change -/
theorem SR.pop {K : PySem.W.Frag} {F : Fr} {S : List SD} {σ : L2.St} {H G : Hp} {t : SD} {o : Option V} (r : SR K F (S ++ [t]) (σ ++ [o]) H G) : SR K F S σ H G := by
  have L : σ.length = S.length := by simpa using r.len
  have inS : ∀ {i : Nat} {s : SD}, S[i]? = some s → (S ++ [t])[i]? = some s ∧ (σ ++ [o])[i]? = σ[i]? := fun {i s} h => by
    have hi := (List.getElem?_eq_some_iff.mp h).1
    exact ⟨by rw [List.getElem?_append_left hi]; exact h, List.getElem?_append_left (by omega)⟩
  refine ⟨L, r.g0, r.gh, r.new, r.keep, r.live, fun i x e => ?_, fun i b xs e => ?_, fun i j a b1 x1 b2 x2 e1 e2 e3 e4 => ?_⟩
  · obtain ⟨h1, h2⟩ := inS e
    rw [← h2]; exact r.dat i x h1
  · obtain ⟨h1, h2⟩ := inS e
    rw [← h2]; exact r.own i b xs h1
  · obtain ⟨h1, h2⟩ := inS e1
    obtain ⟨h3, h4⟩ := inS e2
    rw [← h2] at e3
    rw [← h4] at e4
    exact r.sep i j a b1 x1 b2 x2 h1 h3 e3 e4
def onlyD : SD → Option PyData
  | .d x => some x
  | _ => none
def sCallF (m : Fn) (fl : LS) : ES := fun S => (fl S).bind fun p => (m [.own true p.1]).bind fun q => (onlyD q.1).map fun x => (.dat x, p.2)
theorem sem_callF {K : PySem.W.Frag} {te : TE} {fl : LS} {m : Fn} (h : SemL K te fl) : SemE K (tCallG (spM K 1 m) (tCons te tNil)) (sCallF m fl) := by
  intro F S σ H G o S' r ef Q k
  obtain ⟨⟨xs, S1⟩, e1, ef⟩ := Option.bind_eq_some_iff.mp ef
  obtain ⟨⟨rs, Dl'⟩, e2, ef⟩ := Option.bind_eq_some_iff.mp ef
  obtain ⟨x, e3, e4⟩ := Option.map_eq_some_iff.mp ef
  cases e4
  have hrs : rs = .d x := by
    cases rs with
    | d y => cases e3; rfl
    | _ => cases e3
  subst hrs
  refine h F S σ H G xs _ r e1 _ fun p vs H1 G1 r1 g1 f0 fg fa hh ha => ?_
  have L1 : σ.length = S1.length := r1.len
  have rp := r1.pushO f0 fg fa hh ha
  refine ⟨[.own true xs], G1, .d x, Dl', rfl, ?_, e2, fun v H' G' r' => ?_⟩
  · refine ⟨rfl, .refl _, r1.gh, fun b h => .inl h, fun b o h _ => h, fun b h => h, fun i y e => ?_, fun i b ys e => ?_, fun i j c b1 x1 b2 x2 q1 q2 _ _ => ?_⟩
    · cases i with
      | zero => cases e
      | succ i => simp at e
    · cases i with
      | zero => cases e; exact ⟨p, vs, rfl, fg, hh, ha, fun _ => ⟨⟨0, true, xs, rfl, rfl⟩, rfl⟩, fun q => by cases q⟩
      | succ i => simp at e
    · cases i with
      | zero => cases j with
        | zero => rfl
        | succ j => simp at q2
      | succ i => simp at q1
  · have hB : ∀ a, (Fr.B ⟨H1, G1, [.own true xs], [V.ref p].map some⟩ a) → a = p := fun a ⟨i, b, ys, q1, q2⟩ => by
      cases i with
      | zero => cases q2; rfl
      | succ i => simp at q1
    have atP : (S1 ++ [SD.own false xs])[S1.length]? = some (.own false xs) := by simp
    have atV : (σ ++ [some (V.ref p)])[S1.length]? = some (some (.ref p)) := by rw [← L1]; simp
    have rb : SR K F (S1 ++ [.un]) (σ ++ [some (.ref p)]) H' G' := by
      refine rp.back r' rfl rfl (fun a hb => ?_) (by simp) (fun j y e => ?_) fun j b ys e => ?_
      · rw [hB a hb]; exact ⟨S1.length, false, xs, atP, atV⟩
      · by_cases hj : j < S1.length
        · rw [List.getElem?_append_left hj] at e ⊢; exact e
        · rw [List.getElem?_append_right (by omega)] at e
          cases z : j - S1.length with
          | zero => rw [z] at e; cases e
          | succ n => rw [z] at e; simp at e
      · by_cases hj : j < S1.length
        · rw [List.getElem?_append_left hj] at e
          obtain ⟨a, ws, q1, _⟩ := r1.own j b ys e
          have e' : (S1 ++ [SD.own false xs])[j]? = some (.own b ys) := by rw [List.getElem?_append_left hj]; exact e
          refine ⟨⟨ys, e'⟩, a, by rw [List.getElem?_append_left (by omega)]; exact q1, .inr ⟨e', fun hb => ?_⟩⟩
          rw [hB a hb] at q1
          exact fa j b ys e q1
        · rw [List.getElem?_append_right (by omega)] at e
          cases z : j - S1.length with
          | zero => rw [z] at e; cases e
          | succ n => rw [z] at e; simp at e
    have hv : Rp K G' v x := by
      have hl : Dl'.length = 1 := by simpa using r'.len.symm
      obtain ⟨u, q1, q2⟩ := r'.dat 1 x (by rw [← hl]; simp)
      cases q1
      exact q2
    exact k v H' G' rb.pop (g1.trans r'.g0) hv
section
variable {X : Cx} {K : PySem.W.Frag} {k : Nat} {f : Addr} {fd : FuncData} {ps : List Str} {m : Fn} {x : Str} {p pos : Pos} {e : Expr} {te : TE} {fl : LS}
theorem se_callF (hK : X.K = K) (C : Cal X.prog X.w K X.mg X.base k x ps m f fd) (hr : Room k X.A) (hgd : X.A.guards = some []) (ha : SL X K e te fl) (hp : ps.length = 1 := by rfl) (hg : Gl X x := by rfl) (hdb : (x == ("__debug__" : Str)) = false := by decide)
    (he : starEach [e] X.env = (false, eval e X.env) :: starEach [] X.env := by rfl) (hpl : (backTo pos (starEach [] X.env)).any (·.1) = false := by rfl) : SE X K (.Call (.Name x p) [e] [] pos) (tCallG (spM K 1 m) (tCons te tNil)) (sCallF m fl) := by
  have h := pe_callG hK C hr hgd (pa_cons ha.p pa_nil he) hg hdb he hpl (pos := pos) (p := p)
  rw [hp] at h
  exact ⟨h, sem_callF ha.ok⟩
end
end DL

set_option Elab.async false
set_option linter.all false
set_option maxRecDepth 100000
set_option maxHeartbeats 4000000
/-! DM, part 1: the mirrors, evaluated step by step (for simp). -/
namespace DL
open PySem PySem.Spec PyProof.Rows L2

@[simp] theorem e_sVar (i : Nat) (S : List SD) : sVar i S = (if sdTold (S[i]?) = true then some (.slot i, S) else none) := rfl
@[simp] theorem e_sC (x : PyData) (S : List SD) : sC x S = (some (.dat x, S)) := rfl
@[simp] theorem e_sTake (f : ES) (S : List SD) : sTake f S = ((f S).bind fun p => takeO p.2 p.1) := rfl
@[simp] theorem e_sDat (f : DS) (S : List SD) : sDat f S = ((f S).map fun p => (.dat p.1, p.2)) := rfl
@[simp] theorem e_sKeep (f : LS) (S : List SD) : sKeep f S = ((f S).map fun p => (.dat (.list p.1), p.2)) := rfl
@[simp] theorem e_sNil (S : List SD) : sNil  S = (some ([], S)) := rfl
@[simp] theorem e_sCons (f : ES) (g : AS) (S : List SD) : sCons f g S = ((f S).bind fun p => (g p.2).map fun q => (p.1 :: q.1, q.2)) := rfl
@[simp] theorem e_sBin (g : PyData → PyData → Option PyData) (f f' : ES) (S : List SD) : sBin g f f' S = ((f S).bind fun p => (f' p.2).bind fun q => (p.1.get q.2).bind fun x => (q.1.get q.2).bind fun y => (g x y).map fun z => (.dat z, q.2)) := rfl
@[simp] theorem e_sBinL (g : PyData → PyData → Option (List PyData)) (f f' : ES) (S : List SD) : sBinL g f f' S = ((f S).bind fun p => (f' p.2).bind fun q => (p.1.get q.2).bind fun x => (q.1.get q.2).bind fun y => (g x y).map fun z => (z, q.2)) := rfl
@[simp] theorem e_sTest (f : ES) (S : List SD) : sTest f S = ((f S).bind fun p => (p.1.get p.2).bind fun x => (dBool x).map fun b => (b, p.2)) := rfl
@[simp] theorem e_sAnd (f g : BS) (S : List SD) : sAnd f g S = ((f S).bind fun p => if p.1 = true then g p.2 else some (false, p.2)) := rfl
@[simp] theorem e_sOr (f g : BS) (S : List SD) : sOr f g S = ((f S).bind fun p => if p.1 = true then some (true, p.2) else g p.2) := rfl
@[simp] theorem e_sNot (f : BS) (S : List SD) : sNot f S = ((f S).map fun p => (!p.1, p.2)) := rfl
@[simp] theorem e_sAndV (f g : ES) (S : List SD) : sAndV f g S = ((f S).bind fun p => (p.1.get p.2).bind fun x => (dBool x).bind fun c => if c = true then g p.2 else some (.dat (.bool false), p.2)) := rfl
@[simp] theorem e_sOrV (f g : ES) (S : List SD) : sOrV f g S = ((f S).bind fun p => (p.1.get p.2).bind fun x => (dBool x).bind fun c => if c = true then some (.dat (.bool true), p.2) else g p.2) := rfl
@[simp] theorem e_sNotV (f : ES) (S : List SD) : sNotV f S = ((f S).bind fun p => (p.1.get p.2).bind fun x => (dBool x).map fun c => (.dat (.bool (!c)), p.2)) := rfl
@[simp] theorem e_sIf {α : Type} (t : BS) (f g : List SD → Option α) (S : List SD) : sIf t f g S = ((t S).bind fun p => if p.1 = true then f p.2 else g p.2) := rfl
@[simp] theorem e_sUn (g : PyData → Option PyData) (f : ES) (S : List SD) : sUn g f S = ((f S).bind fun p => (p.1.get p.2).bind fun x => (g x).map fun z => (.dat z, p.2)) := rfl
@[simp] theorem e_sTup (f : AS) (S : List SD) : sTup f S = ((f S).bind fun p => (takeAll p.2 p.1).bind fun q => if q.1.length ≤ 100000 then some (.dat (.tuple q.1), q.2) else none) := rfl
@[simp] theorem e_sLst (f : AS) (S : List SD) : sLst f S = ((f S).bind fun p => (takeAll p.2 p.1).bind fun q => if q.1.length ≤ 100000 then some (q.1, q.2) else none) := rfl
@[simp] theorem e_sCB (g : List PyData → Option PyData) (f : AS) (S : List SD) : sCB g f S = ((f S).bind fun p => (getAll p.2 p.1).bind fun xs => (g xs).map fun z => (.dat z, p.2)) := rfl
@[simp] theorem e_sCBL (g : List PyData → Option (List PyData)) (f : AS) (S : List SD) : sCBL g f S = ((f S).bind fun p => (getAll p.2 p.1).bind fun xs => (g xs).map fun z => (z, p.2)) := rfl
@[simp] theorem e_sNext (S : List SD) : sNext  S = (some (.nx S)) := rfl
@[simp] theorem e_sBreak (S : List SD) : sBreak  S = (some (.bk S)) := rfl
@[simp] theorem e_sCont (S : List SD) : sCont  S = (some (.ct S)) := rfl
@[simp] theorem e_sNever (S : List SD) : sNever  S = (none) := rfl
@[simp] theorem e_sDrop (fe : ES) (S : List SD) : sDrop fe S = ((fe S).map fun p => .nx p.2) := rfl
@[simp] theorem e_sRet (fd : DS) (S : List SD) : sRet fd S = ((fd S).map fun p => .rt (.d p.1) p.2) := rfl
@[simp] theorem e_sRetL (fl : LS) (S : List SD) : sRetL fl S = ((fl S).map fun p => .rt (.own false p.1) p.2) := rfl
@[simp] theorem e_sRetV (i : Nat) (S : List SD) : sRetV i S = (retS S i (S[i]?)) := rfl
@[simp] theorem e_sRetN (S : List SD) : sRetN  S = (some (.rt (.d .none) S)) := rfl
@[simp] theorem e_sAsg (fd : DS) (gs : GS) (S : List SD) : sAsg fd gs S = ((fd S).bind fun p => (gs p.1 p.2).map fun S1 => .nx S1) := rfl
@[simp] theorem e_sAsgL (fl : LS) (i : Nat) (S : List SD) : sAsgL fl i S = ((fl S).map fun p => .nx (p.2.set i (.own false p.1))) := rfl
@[simp] theorem e_sFor (fi : LS) (gs : GS) (fb : SSem) (S : List SD) : sFor fi gs fb S = ((fi S).bind fun p => forGo gs fb p.1 p.2) := rfl
@[simp] theorem e_sWhile (n : Nat) (ft : BS) (fb : SSem) (S : List SD) : sWhile n ft fb S = (whileGo ft fb n S) := rfl
@[simp] theorem e_sYes (S : List SD) : sYes  S = (some (true, S)) := rfl
@[simp] theorem e_sLC (vs : List Nat) (fi : LS) (gs : GS) (fc : BS) (fd : DS) (S : List SD) : sLC vs fi gs fc fd S = ((fi S).bind fun p => if p.1.length < 100000 then lcGo vs gs fc fd p.1 p.2 else none) := rfl
@[simp] theorem e_sApp (n k : Nat) (f g : AS) (S : List SD) : sApp n k f g S = ((f S).bind fun p => (g p.2).bind fun q => if p.1.length = n ∧ q.1.length = k then some (p.1 ++ q.1, q.2) else none) := rfl
@[simp] theorem e_sCallR (n : Nat) (m : Fn) (fs : AS) (S : List SD) : sCallR n m fs S = ((fs S).bind fun p => (opSDs p.2 p.1).bind fun Dl => if p.1.length = n ∧ (ownIx p.2 p.1).Nodup then (m Dl).map fun q => (q.1, wbGo p.1 q.2 0 p.2) else none) := rfl
@[simp] theorem e_sPerm (pm : List Nat) (f : AS) (S : List SD) : sPerm pm f S = ((f S).map fun p => (perm pm p.1, p.2)) := rfl
@[simp] theorem e_sCall (n : Nat) (m : Fn) (fs : AS) (S : List SD) : sCall n m fs S = ((sCallR n m fs S).bind fun p => (resD p.1).map fun x => (.dat x, p.2)) := rfl
@[simp] theorem e_sCallL (n : Nat) (m : Fn) (fs : AS) (S : List SD) : sCallL n m fs S = ((sCallR n m fs S).bind fun p => (resL p.1).map fun x => (x, p.2)) := rfl
@[simp] theorem e_sIsi (T : Tg) (fe : ES) (S : List SD) : sIsi T fe S = ((fe S).bind fun p => (p.1.get p.2).bind fun x => (isTy T x).map fun b => (.dat (.bool b), p.2)) := rfl
@[simp] theorem e_sIsi2 (T U : Tg) (fe : ES) (S : List SD) : sIsi2 T U fe S = ((fe S).bind fun p => (p.1.get p.2).bind fun x => (isTy T x).bind fun b => (isTy U x).map fun c => (.dat (.bool (b || c)), p.2)) := rfl
@[simp] theorem e_sSeqI (fd : DS) (S : List SD) : sSeqI fd S = ((fd S).bind fun p => (dItems p.1).map fun xs => (xs, p.2)) := rfl
@[simp] theorem e_sTakeA (f : AS) (S : List SD) : sTakeA f S = ((f S).bind fun p => takeAll p.2 p.1) := rfl
@[simp] theorem e_sArgI (g : List PyData → Option (List PyData)) (f : AS) (S : List SD) : sArgI g f S = ((sTakeA f S).bind fun p => (g p.1).map fun xs => (xs, p.2)) := rfl
@[simp] theorem e_sNoPart (S : List SD) : sNoPart  S = (some (none, S)) := rfl
@[simp] theorem e_sPart (f : ES) (S : List SD) : sPart f S = ((f S).bind fun p => (p.1.get p.2).bind fun x => (dIntO x).map fun i => (some i, p.2)) := rfl
@[simp] theorem e_sSlice (fe : ES) (fl fh : OS) (S : List SD) : sSlice fe fl fh S = ((fe S).bind fun p => (fl p.2).bind fun q => (fh q.2).bind fun r => (p.1.get r.2).bind fun x => (dCut x q.1 r.1).map fun z => (.dat z, r.2)) := rfl
@[simp] theorem e_sSliceL (fe : ES) (fl fh : OS) (S : List SD) : sSliceL fe fl fh S = ((fe S).bind fun p => (fl p.2).bind fun q => (fh q.2).bind fun r => (p.1.get r.2).bind fun x => (dCutL x q.1 r.1).map fun z => (z, r.2)) := rfl
@[simp] theorem e_vD (fd : DS) (S : List SD) : vD fd S = ((fd S).map fun p => (.d p.1, p.2)) := rfl
@[simp] theorem e_vL (fl : LS) (S : List SD) : vL fl S = ((fl S).map fun p => (.own false p.1, p.2)) := rfl
@[simp] theorem e_sSetV (fv : VS) (i : Nat) (S : List SD) : sSetV fv i S = ((fv S).map fun p => .nx (p.2.set i p.1)) := rfl
@[simp] theorem e_sRetVS (fv : VS) (S : List SD) : sRetVS fv S = ((fv S).map fun p => .rt p.1 p.2) := rfl
@[simp] theorem e_sPar (i j : Nat) (fv fw : VS) (S : List SD) : sPar i j fv fw S = ((fv S).bind fun p => (asideV p.1 fw p.2).map fun q => .nx ((q.2.set i p.1).set j q.1)) := rfl
@[simp] theorem e_sPar3 (i j l : Nat) (fs : AS) (S : List SD) : sPar3 i j l fs S = ((sTakeA fs S).bind fun p => set3 i j l p.2 p.1) := rfl
@[simp] theorem e_sIndex (fo fa : ES) (S : List SD) : sIndex fo fa S = ((fo S).bind fun p => (p.1.get p.2).bind fun l => if isList l = true then (fa p.2).bind fun q => (p.1.get q.2).bind fun x => (q.1.get q.2).bind fun y => (dIndex x y).map fun z => (.dat z, q.2) else none) := rfl
@[simp] theorem e_sRg1 (fe : ES) (S : List SD) : sRg1 fe S = ((fe S).bind fun p => (p.1.get p.2).bind fun x => (dIntO x).map fun n => ((0, n), p.2)) := rfl
@[simp] theorem e_sRg2 (fe fa : ES) (S : List SD) : sRg2 fe fa S = ((fe S).bind fun p => (fa p.2).bind fun q => (p.1.get q.2).bind fun x => (q.1.get q.2).bind fun y => (dIntO x).bind fun n => (dIntO y).map fun m => ((n, m), q.2)) := rfl
@[simp] theorem e_sLstRg (f : RS) (S : List SD) : sLstRg f S = ((f S).bind fun p => if rgB p.1.1 p.1.2 = true then some (rngD p.1.1 (p.1.2 - p.1.1).toNat, p.2) else none) := rfl
@[simp] theorem e_sTupRg (f : RS) (S : List SD) : sTupRg f S = ((f S).bind fun p => if rgB p.1.1 p.1.2 = true then some (.dat (.tuple (rngD p.1.1 (p.1.2 - p.1.1).toNat)), p.2) else none) := rfl
@[simp] theorem e_sDict0 (S : List SD) : sDict0  S = (some (.dat (.dict []), S)) := rfl

@[simp] theorem e_sSeq (f g : SSem) (S : List SD) : sSeq f g S = ((f S).bind fun o => match o with
  | .nx S1 => g S1
  | o => some o) := rfl
@[simp] theorem told_d (x : PyData) : sdTold (some (.d x)) = true := rfl
@[simp] theorem told_o (b : Bool) (x : List PyData) : sdTold (some (.own b x)) = true := rfl
@[simp] theorem told_u : sdTold (some .un) = false := rfl
@[simp] theorem get_d (x : PyData) : sdGet (.d x) = some x := rfl
@[simp] theorem get_o (b : Bool) (x : List PyData) : sdGet (.own b x) = some (.list x) := rfl
@[simp] theorem op_dat (S : List SD) (x : PyData) : Op.get S (.dat x) = some x := rfl
@[simp] theorem op_slot (S : List SD) (i : Nat) : Op.get S (.slot i) = (S[i]?).bind sdGet := rfl
@[simp] theorem takeO_dat (S : List SD) (x : PyData) : takeO S (.dat x) = some (x, S) := rfl
@[simp] theorem takeO_slot (S : List SD) (i : Nat) : takeO S (.slot i) = takeS S i (S[i]?) := rfl
@[simp] theorem takeS_d (S : List SD) (i : Nat) (x : PyData) : takeS S i (some (.d x)) = some (x, S) := rfl
@[simp] theorem takeS_o (S : List SD) (i : Nat) (x : List PyData) : takeS S i (some (.own false x)) = some (.list x, S.set i (.d (.list x))) := rfl
@[simp] theorem takeAll_nil (S : List SD) : takeAll S [] = some ([], S) := rfl
@[simp] theorem takeAll_cons (S : List SD) (o : Op) (os : List Op) : takeAll S (o :: os) = ((takeO S o).bind fun p => (takeAll p.2 os).map fun q => (p.1 :: q.1, q.2)) := rfl
@[simp] theorem getAll_nil (S : List SD) : getAll S [] = some [] := rfl
@[simp] theorem getAll_cons (S : List SD) (o : Op) (os : List Op) : getAll S (o :: os) = ((o.get S).bind fun x => (getAll S os).map fun xs => x :: xs) := rfl
@[simp] theorem bor_o (b : Bool) (x : List PyData) : bor (.own b x) = .own true x := rfl
@[simp] theorem bor_d (x : PyData) : bor (.d x) = .d x := rfl
@[simp] theorem bor_u : bor .un = .un := rfl
@[simp] theorem borGo_nil (vs : List Nat) (k : Nat) : borGo vs k [] = [] := rfl
@[simp] theorem borGo_cons (vs : List Nat) (k : Nat) (s : SD) (S : List SD) : borGo vs k (s :: S) = (if k ∈ vs then .un else bor s) :: borGo vs (k + 1) S := rfl
@[simp] theorem unb1_oo (b : Bool) (x y : List PyData) : unb1 (.own b x) (.own true y) = .own b y := rfl
@[simp] theorem unb1_d (x : PyData) (s : SD) : unb1 (.d x) s = .d x := by cases s <;> rfl
@[simp] theorem unb1_u (s : SD) : unb1 .un s = .un := by cases s <;> rfl
@[simp] theorem unbGo_cons (vs : List Nat) (k : Nat) (s s' : SD) (S S' : List SD) : unbGo vs k (s :: S) (s' :: S') = (if k ∈ vs then s else unb1 s s') :: unbGo vs (k + 1) S S' := by cases S <;> rfl
@[simp] theorem unbGo_nil (vs : List Nat) (k : Nat) : unbGo vs k [] [] = [] := rfl
@[simp] theorem fin_nil (S : List SD) : fin [] S = some [] := by cases S <;> rfl
@[simp] theorem fin_d (x : PyData) (Dl : List SD) (s : SD) (S : List SD) : fin (.d x :: Dl) (s :: S) = (fin Dl S).map fun z => .d x :: z := rfl
@[simp] theorem fin_o (b : Bool) (x y : List PyData) (Dl S : List SD) : fin (.own b x :: Dl) (.own true y :: S) = (fin Dl S).map fun z => .own true y :: z := rfl
@[simp] theorem defOut_nx (Dl S : List SD) : defOut Dl (.nx S) = (fin Dl S).map fun z => (.d .none, z) := rfl
@[simp] theorem defOut_rt (Dl S : List SD) (r : SD) : defOut Dl (.rt r S) = (fin Dl S).map fun z => (r, z) := rfl
@[simp] theorem opSD_dat (S : List SD) (x : PyData) : opSD S (.dat x) = some (.d x) := rfl
@[simp] theorem opSD_slot (S : List SD) (i : Nat) : opSD S (.slot i) = ((S[i]?).bind fun s => match s with
    | .un => none
    | s => some (bor s)) := rfl
@[simp] theorem opSDs_nil (S : List SD) : opSDs S [] = some [] := rfl
@[simp] theorem opSDs_cons (S : List SD) (o : Op) (os : List Op) : opSDs S (o :: os) = ((opSD S o).bind fun s => (opSDs S os).map fun ss => s :: ss) := rfl
@[simp] theorem isOwn_d (x : PyData) : isOwn (some (.d x)) = false := rfl
@[simp] theorem isOwn_o (b : Bool) (x : List PyData) : isOwn (some (.own b x)) = true := rfl
@[simp] theorem isOwnS_o (b : Bool) (x : List PyData) : isOwnS (some (.own b x)) = true := rfl
@[simp] theorem ownIx_nil (S : List SD) : ownIx S [] = [] := rfl
@[simp] theorem ownIx_slot (S : List SD) (i : Nat) (os : List Op) : ownIx S (.slot i :: os) = if isOwn (S[i]?) = true then i :: ownIx S os else ownIx S os := rfl
@[simp] theorem ownIx_dat (S : List SD) (x : PyData) (os : List Op) : ownIx S (.dat x :: os) = ownIx S os := rfl
@[simp] theorem isSlot_s (i j : Nat) : isSlot j (.slot i) = (i == j) := rfl
@[simp] theorem isSlot_d (x : PyData) (j : Nat) : isSlot j (.dat x) = false := rfl
@[simp] theorem findArg_nil (j : Nat) (rs : List SD) : findArg j [] rs = none := rfl
@[simp] theorem findArg_cons (j : Nat) (o : Op) (os : List Op) (rs : List SD) : findArg j (o :: os) rs = if isSlot j o = true then some (rs.headD .un) else findArg j os rs.tail := rfl
@[simp] theorem wb1_n (s : SD) : wb1 none s = s := rfl
@[simp] theorem wb1_s (r s : SD) : wb1 (some r) s = unb1 s r := rfl
@[simp] theorem wbGo_nil (os : List Op) (rs : List SD) (j : Nat) : wbGo os rs j [] = [] := rfl
@[simp] theorem wbGo_cons (os : List Op) (rs : List SD) (j : Nat) (s : SD) (S : List SD) : wbGo os rs j (s :: S) = wb1 (findArg j os rs) s :: wbGo os rs (j + 1) S := rfl
@[simp] theorem resD_d (x : PyData) : resD (.d x) = some x := rfl
@[simp] theorem resD_o (x : List PyData) : resD (.own false x) = some (.list x) := rfl
@[simp] theorem resL_o (x : List PyData) : resL (.own false x) = some x := rfl
@[simp] theorem retS_o (S : List SD) (i : Nat) (x : List PyData) : retS S i (some (.own false x)) = some (.rt (.own false x) (S.set i .un)) := rfl
@[simp] theorem retS_d (S : List SD) (i : Nat) (x : PyData) : retS S i (some (.d x)) = some (.rt (.d x) S) := rfl
@[simp] theorem e_gsName (i : Nat) (x : PyData) (S : List SD) : gsName i x S = some (S.set i (.d x)) := rfl
@[simp] theorem e_gsNil (S : List SD) : gsNil [] S = some S := rfl
@[simp] theorem e_gsCons (g : GS) (gs : List PyData → List SD → Option (List SD)) (x : PyData) (xs : List PyData) (S : List SD) : gsCons g gs (x :: xs) S = (g x S).bind fun S1 => gs xs S1 := rfl
@[simp] theorem e_gsTup (n : Nat) (gs : List PyData → List SD → Option (List SD)) (xs : List PyData) (S : List SD) : gsTup n gs (.tuple xs) S = if xs.length = n then gs xs S else none := rfl
@[simp] theorem e_gsSub (i : Nat) (fi : ES) (x : PyData) (S : List SD) : gsSub i fi x S = if isOwnS (S[i]?) = true then (fi S).bind fun p => (p.1.get p.2).bind fun y => (dIntO y).bind fun k => setAt i x k p.2 (p.2[i]?) else none := rfl
@[simp] theorem e_setAt (i : Nat) (x : PyData) (k : Int) (S : List SD) (b : Bool) (xs : List PyData) : setAt i x k S (some (.own b xs)) = (ixN xs.length k).map fun j => S.set i (.own b (xs.set j x)) := rfl
@[simp] theorem dIntO_i (i : Int) : dIntO (.int i) = some i := rfl
@[simp] theorem dItems_t (xs : List PyData) : dItems (.tuple xs) = some xs := rfl
@[simp] theorem dItems_l (xs : List PyData) : dItems (.list xs) = some xs := rfl
@[simp] theorem isList_l (xs : List PyData) : isList (.list xs) = true := rfl
@[simp] theorem asideV_d (x : PyData) (f : VS) : asideV (.d x) f = f := rfl
@[simp] theorem asideV_o (b : Bool) (x : List PyData) (f : VS) (S : List SD) : asideV (.own b x) f S = (f (borGo [] 0 S)).map fun p => (p.1, unbGo [] 0 S p.2) := rfl
@[simp] theorem e_vLCt (fl : LS) : vLC true fl = vD (sTake (sKeep fl)) := rfl
@[simp] theorem e_vLCf (fl : LS) : vLC false fl = vL fl := rfl
@[simp] theorem e_sChain (g g' : PyData → PyData → Option PyData) (f f' f'' : ES) (S : List SD) : sChain g g' f f' f'' S = ((f S).bind fun p => (f' p.2).bind fun q => (p.1.get q.2).bind fun x => (q.1.get q.2).bind fun y => (g x y).bind fun z => (dBool z).bind fun k =>
  if k = true then (f'' q.2).bind fun s => (q.1.get s.2).bind fun y' => (s.1.get s.2).bind fun w => (g' y' w).map fun z' => (.dat z', s.2) else some (.dat (.bool false), q.2)) := rfl
def methS (i : Nat) (g : List PyData → List PyData → Option (PyData × List PyData)) (ys : List PyData) (S : List SD) : Option SD → Option (Op × List SD)
  | some (.own b xs) => (g xs ys).map fun z => (.dat z.1, S.set i (.own b z.2))
  | _ => none
@[simp] theorem e_methS (i : Nat) (g : List PyData → List PyData → Option (PyData × List PyData)) (ys : List PyData) (S : List SD) (b : Bool) (xs : List PyData) : methS i g ys S (some (.own b xs)) = (g xs ys).map fun z => (.dat z.1, S.set i (.own b z.2)) := rfl
@[simp] theorem e_sMeth (i : Nat) (g : List PyData → List PyData → Option (PyData × List PyData)) (fs : AS) (S : List SD) : sMeth i g fs S = if isOwnS (S[i]?) = true then (sTakeA fs S).bind fun p => methS i g p.1 p.2 (p.2[i]?) else none := by
  unfold sMeth
  split
  · rename_i h
    rw [h]
    simp only [isOwnS, if_true]
    rfl
  · rename_i h
    cases q : S[i]? with
    | none => rfl
    | some sd =>
      cases sd with
      | own b x => exact absurd q (h b x)
      | _ => rfl
/-! data -/
@[simp] theorem dLt_i (i j : Int) : dLt (.int i) (.int j) = some (.bool (decide (i < j))) := rfl
@[simp] theorem dLe_i (i j : Int) : dLe (.int i) (.int j) = some (.bool (decide (i ≤ j))) := rfl
@[simp] theorem dGt_i (i j : Int) : dGt (.int i) (.int j) = some (.bool (decide (j < i))) := rfl
@[simp] theorem dGe_i (i j : Int) : dGe (.int i) (.int j) = some (.bool (decide (j ≤ i))) := rfl
@[simp] theorem dSub_i (i j : Int) : dSub (.int i) (.int j) = some (.int (i - j)) := rfl
@[simp] theorem dAdd_i (i j : Int) : dAdd (.int i) (.int j) = some (.int (i + j)) := rfl
@[simp] theorem dAdd_t (x y : List PyData) : dAdd (.tuple x) (.tuple y) = if x.length + y.length ≤ 100000 then some (.tuple (x ++ y)) else none := rfl
@[simp] theorem dAdd_l (x y : List PyData) : dAdd (.list x) (.list y) = if x.length + y.length ≤ 100000 then some (.list (x ++ y)) else none := rfl
@[simp] theorem dNeg_i (i : Int) : dNeg (.int i) = some (.int (-i)) := rfl
@[simp] theorem dMod_i (i j : Int) : dMod (.int i) (.int j) = if 0 < j then some (.int (i % j)) else none := rfl
@[simp] theorem dDiv_i (i j : Int) : dDiv (.int i) (.int j) = if CDiv i j then some (.int (i / j)) else none := rfl
@[simp] theorem dPow_i (i j : Int) : dPow (.int i) (.int j) = if CPow i j then some (.int (i ^ j.toNat)) else none := rfl
@[simp] theorem dMulX_i (i j : Int) : dMulX (.int i) (.int j) = if CMul i j then some (.int (i * j)) else none := rfl
@[simp] theorem dMulX_t (x : List PyData) (k : Int) : dMulX (.tuple x) (.int k) = if -1000 ≤ k ∧ k ≤ 1000 ∧ x.length ≤ 1000 then some (.tuple (List.replicate k.toNat x).flatten) else none := rfl
@[simp] theorem dIx_t (x : List PyData) (i : Int) : dIx (.tuple x) (.int i) = atI x i := rfl
@[simp] theorem dIx_l (x : List PyData) (i : Int) : dIx (.list x) (.int i) = atI x i := rfl
@[simp] theorem dLen_t (x : List PyData) : dLen [.tuple x] = some (.int x.length) := rfl
@[simp] theorem dLen_l (x : List PyData) : dLen [.list x] = some (.int x.length) := rfl
@[simp] theorem dLen_s (x : List PyData) : dLen [.dict [(.none, .list x)]] = some (.int x.length) := rfl
@[simp] theorem dIx_s (x : List PyData) (i : Int) : dIx (.dict [(.none, .list x)]) (.int i) = atI x i := rfl
@[simp] theorem dBool_b (b : Bool) : dBool (.bool b) = some b := rfl
@[simp] theorem dEq_ii (i j : Int) : dEq (.int i) (.int j) = some (.bool (decide (i = j))) := by
  have : dEq (.int i) (.int j) = if fitN 60 (.int i) = true ∧ fitN 60 (.int j) = true then some (.bool (PyData.eqv (.int i) (.int j))) else none := rfl
  rw [this, if_pos ⟨fit_int _ _, fit_int _ _⟩]
  have : PyData.eqv (.int i) (.int j) = decide (i = j) := by simp only [PyData.eqv]; rw [Bool.eq_iff_iff]; simp
  rw [this]
@[simp] theorem dNe_ii (i j : Int) : dNe (.int i) (.int j) = some (.bool (!decide (i = j))) := by
  have : dNe (.int i) (.int j) = if fitN 60 (.int i) = true ∧ fitN 60 (.int j) = true then some (.bool (!PyData.eqv (.int i) (.int j))) else none := rfl
  rw [this, if_pos ⟨fit_int _ _, fit_int _ _⟩]
  have : PyData.eqv (.int i) (.int j) = decide (i = j) := by simp only [PyData.eqv]; rw [Bool.eq_iff_iff]; simp
  rw [this]
@[simp] theorem dEq_ss (i j : Str) : dEq (.str i) (.str j) = some (.bool (decide (i = j))) := rfl
@[simp] theorem dNe_ss (i j : Str) : dNe (.str i) (.str j) = some (.bool (!decide (i = j))) := rfl
@[simp] theorem dIs_bb (i j : Bool) : dIs (.bool i) (.bool j) = some (.bool (decide (i = j))) := rfl
@[simp] theorem dIs_n (x : PyData) : dIs x .none = some (.bool (isNoneD x)) := rfl
@[simp] theorem dIsNot_n (x : PyData) : dIsNot x .none = some (.bool (!isNoneD x)) := rfl
@[simp] theorem dInt_i (i : Int) : dInt [.int i] = some (.int i) := rfl
@[simp] theorem dTuple_l (x : List PyData) : dTuple [.list x] = some (.tuple x) := rfl
@[simp] theorem dTuple_t (x : List PyData) : dTuple [.tuple x] = some (.tuple x) := rfl
@[simp] theorem dListL_l (x : List PyData) : dListL [.list x] = some x := rfl
@[simp] theorem dListL_t (x : List PyData) : dListL [.tuple x] = some x := rfl
@[simp] theorem dAll_m (bs : List Bool) : dAll [.list (bs.map .bool)] = some (.bool (bs.all id)) := by simp [dAll, dBools_map]
@[simp] theorem dAny_m (bs : List Bool) : dAny [.list (bs.map .bool)] = some (.bool (bs.any id)) := by simp [dAny, dBools_map]
theorem dAll_f {α : Type} (f : α → Bool) (xs : List α) : dAll [.list (xs.map fun x => .bool (f x))] = some (.bool (xs.all f)) := by
  have h : (xs.map fun x => PyData.bool (f x)) = (xs.map f).map .bool := by simp
  rw [h, dAll_m]; simp
@[simp] theorem dAll_c {α : Type} (f : α → Bool) (xs : List α) : dAll [.list (xs.map (PyData.bool ∘ f))] = some (.bool (xs.all f)) := dAll_f f xs
theorem dAny_f {α : Type} (f : α → Bool) (xs : List α) : dAny [.list (xs.map fun x => .bool (f x))] = some (.bool (xs.any f)) := by
  have h : (xs.map fun x => PyData.bool (f x)) = (xs.map f).map .bool := by simp
  rw [h, dAny_m]; simp
@[simp] theorem dAny_c {α : Type} (f : α → Bool) (xs : List α) : dAny [.list (xs.map (PyData.bool ∘ f))] = some (.bool (xs.any f)) := dAny_f f xs
@[simp] theorem dMax_ii (i j : Int) : dMax [.int i, .int j] = some (.int (if j > i then j else i)) := rfl
@[simp] theorem dMin_ii (i j : Int) : dMin [.int i, .int j] = some (.int (if j < i then j else i)) := rfl
@[simp] theorem dAbs_i (i : Int) : dAbs [.int i] = some (.int (if i < 0 then -i else i)) := rfl
@[simp] theorem dDivmod_ii (i j : Int) : dDivmod [.int i, .int j] = if CDiv i j then some (.tuple [.int (i / j), .int (i % j)]) else none := rfl
theorem rngI_ok {j : Int} (h1 : 0 ≤ j) (h2 : j ≤ 100000) : rngI [.int j] = some (rngD 0 j.toNat) := by
  unfold rngI
  exact if_pos (by omega)
theorem rngI_n (n : Nat) (h : n ≤ 100000) : rngI [.int n] = some (rngD 0 n) := by
  have e : ((n : Int)).toNat = n := Int.toNat_natCast n
  have := rngI_ok (j := (n : Int)) (Int.natCast_nonneg n) (by omega)
  rw [e] at this
  exact this
@[simp] theorem enumI_t (x : List PyData) : enumI [.tuple x] = some (enumD 0 x) := rfl
@[simp] theorem enumI_l (x : List PyData) : enumI [.list x] = some (enumD 0 x) := rfl
@[simp] theorem zipI_t (x y : List PyData) : zipI [.tuple x, .tuple y] = some (zipD x y) := rfl
@[simp] theorem zipI_l (x y : List PyData) : zipI [.list x, .list y] = some (zipD x y) := rfl
@[simp] theorem zipI_tl (x y : List PyData) : zipI [.tuple x, .list y] = some (zipD x y) := rfl
@[simp] theorem zipI_lt (x y : List PyData) : zipI [.list x, .tuple y] = some (zipD x y) := rfl
@[simp] theorem dCut_t (x : List PyData) (lo hi : Option Int) : dCut (.tuple x) lo hi = some (.tuple (cutD x lo hi)) := rfl
@[simp] theorem dCut_l (x : List PyData) (lo hi : Option Int) : dCut (.list x) lo hi = some (.list (cutD x lo hi)) := rfl
@[simp] theorem dRev_t (x : List PyData) : dRev (.tuple x) = some (.tuple x.reverse) := rfl
@[simp] theorem dRev_l (x : List PyData) : dRev (.list x) = some (.list x.reverse) := rfl
@[simp] theorem mAppend_1 (x : List PyData) (y : PyData) : mAppend x [y] = if x.length < 100000 then some (.none, x ++ [y]) else none := rfl
@[simp] theorem isTy_i (T : Tg) (i : Int) : isTy T (.int i) = some (tgIs T .int) := rfl
@[simp] theorem isTy_b (T : Tg) (i : Bool) : isTy T (.bool i) = some (tgIs T .bool) := rfl
@[simp] theorem isTy_n (T : Tg) : isTy T .none = some (tgIs T .none) := rfl
@[simp] theorem isTy_s (T : Tg) (i : Str) : isTy T (.str i) = some (tgIs T .str) := rfl
@[simp] theorem isTy_t (T : Tg) (i : List PyData) : isTy T (.tuple i) = some (tgIs T .tuple) := rfl
@[simp] theorem isTy_l (T : Tg) (i : List PyData) : isTy T (.list i) = some (tgIs T .list) := rfl
@[simp] theorem isTy_d (T : Tg) : isTy T (.dict []) = some (tgIs T .dict) := rfl
@[simp] theorem isNoneD_n : isNoneD .none = true := rfl
@[simp] theorem isNoneD_t (x : List PyData) : isNoneD (.tuple x) = false := rfl
@[simp] theorem isNoneD_l (x : List PyData) : isNoneD (.list x) = false := rfl
@[simp] theorem isNoneD_i (x : Int) : isNoneD (.int x) = false := rfl
@[simp] theorem isNoneD_s (x : Str) : isNoneD (.str x) = false := rfl

/-! ### comprehensions and loops -/
/-- one turn of a comprehension -/
def lcStep (vs : List Nat) (gs : GS) (fc : BS) (fd : DS) (x : PyData) (S : List SD) : Option (Option PyData × List SD) :=
  (gs x (borGo vs 0 S)).bind fun S1 => (fc S1).bind fun p => if p.1 = true then (fd p.2).map fun q => (some q.1, unbGo vs 0 S q.2) else some (none, unbGo vs 0 S p.2)
theorem lcGo_nil (vs : List Nat) (gs : GS) (fc : BS) (fd : DS) (S : List SD) : lcGo vs gs fc fd [] S = some ([], S) := rfl
theorem lcGo_cons (vs : List Nat) (gs : GS) (fc : BS) (fd : DS) (x : PyData) (xs : List PyData) (S : List SD) :
    lcGo vs gs fc fd (x :: xs) S = (lcStep vs gs fc fd x S).bind fun p => (lcGo vs gs fc fd xs p.2).map fun z => (p.1.toList ++ z.1, z.2) := by
  show ((gs x (borGo vs 0 S)).bind fun S1 => (fc S1).bind fun p => if p.1 = true then (fd p.2).bind fun q => (lcGo vs gs fc fd xs (unbGo vs 0 S q.2)).map fun z => (q.1 :: z.1, z.2) else lcGo vs gs fc fd xs (unbGo vs 0 S p.2)) = _
  unfold lcStep
  cases gs x (borGo vs 0 S) with
  | none => rfl
  | some S1 =>
    simp only [Option.bind_some]
    cases fc S1 with
    | none => rfl
    | some p =>
      simp only [Option.bind_some]
      cases hp : p.1 with
      | true =>
        simp only [if_true]
        cases fd p.2 with
        | none => rfl
        | some q => simp
      | false => simp
/-- the slots stay as they are -/
theorem lc_stable {vs : List Nat} {gs : GS} {fc : BS} {fd : DS} {S : List SD} (F : PyData → Option PyData) : ∀ (xs : List PyData), (∀ x ∈ xs, lcStep vs gs fc fd x S = some (F x, S)) → lcGo vs gs fc fd xs S = some (xs.filterMap F, S)
  | [], _ => rfl
  | x :: xs, h => by
    rw [lcGo_cons, h x (by simp)]
    simp only [Option.bind_some]
    rw [lc_stable F xs fun y hy => h y (List.mem_cons_of_mem _ hy)]
    cases hF : F x <;> simp [hF]
theorem lc_map {vs : List Nat} {gs : GS} {fc : BS} {fd : DS} {S : List SD} (F : PyData → PyData) (xs : List PyData) (h : ∀ x ∈ xs, lcStep vs gs fc fd x S = some (some (F x), S)) : lcGo vs gs fc fd xs S = some (xs.map F, S) := by
  rw [lc_stable (fun x => some (F x)) xs h]
  have : List.filterMap (fun x => some (F x)) xs = xs.map F := by induction xs with
    | nil => rfl
    | cons x xs ih => simp [ih fun y hy => h y (List.mem_cons_of_mem _ hy)]
  rw [this]
/-- the slots keep to I, each new item to R -/
theorem lc_inv {vs : List Nat} {gs : GS} {fc : BS} {fd : DS} (I : List SD → Prop) (R : PyData → Prop) : ∀ (xs : List PyData), (∀ x ∈ xs, ∀ S, I S → ∃ y S', lcStep vs gs fc fd x S = some (some y, S') ∧ I S' ∧ R y) → ∀ S, I S →
    ∃ ys S', lcGo vs gs fc fd xs S = some (ys, S') ∧ I S' ∧ ys.length = xs.length ∧ ∀ y ∈ ys, R y
  | [], _, S, hS => ⟨[], S, rfl, hS, rfl, by simp⟩
  | x :: xs, h, S, hS => by
    obtain ⟨y, S1, h1, h2, h3⟩ := h x (by simp) S hS
    obtain ⟨ys, S2, h4, h5, h6, h7⟩ := lc_inv I R xs (fun z hz => h z (List.mem_cons_of_mem _ hz)) S1 h2
    refine ⟨y :: ys, S2, ?_, h5, by simp [h6], fun z hz => ?_⟩
    · rw [lcGo_cons, h1]
      simp [h4]
    · rcases List.mem_cons.mp hz with rfl | hz
      · exact h3
      · exact h7 z hz
/-- .. with a filter -/
theorem lc_invF {vs : List Nat} {gs : GS} {fc : BS} {fd : DS} (I : List SD → Prop) : ∀ (xs : List PyData) (F : PyData → PyData), (∀ x ∈ xs, ∀ S, I S → ∃ (b : Bool) (S' : List SD), lcStep vs gs fc fd x S = some (if b then some (F x) else none, S') ∧ I S') → ∀ S, I S →
    ∃ (ys : List PyData) (S' : List SD), lcGo vs gs fc fd xs S = some (ys.map F, S') ∧ I S' ∧ ys.Sublist xs
  | [], _, _, S, hS => ⟨[], S, rfl, hS, .refl _⟩
  | x :: xs, F, h, S, hS => by
    obtain ⟨b, S1, h1, h2⟩ := h x (by simp) S hS
    obtain ⟨ys, S2, h4, h5, h6⟩ := lc_invF I xs F (fun z hz => h z (List.mem_cons_of_mem _ hz)) S1 h2
    cases b with
    | true => exact ⟨x :: ys, S2, by rw [lcGo_cons, h1]; simp [h4], h5, h6.cons₂ x⟩
    | false => exact ⟨ys, S2, by rw [lcGo_cons, h1]; simp [h4], h5, h6.cons x⟩
theorem forGo_nil (gs : GS) (fb : SSem) (S : List SD) : forGo gs fb [] S = some (.nx S) := rfl
theorem forGo_cons (gs : GS) (fb : SSem) (x : PyData) (xs : List PyData) (S : List SD) : forGo gs fb (x :: xs) S = ((gs x S).bind fun S1 => (fb S1).bind fun o => match o with
    | .nx S2 => forGo gs fb xs S2
    | .ct S2 => forGo gs fb xs S2
    | .bk S2 => some (.nx S2)
    | .rt r S2 => some (.rt r S2)) := rfl
/-- one turn of a loop that goes on -/
def forStep (gs : GS) (fb : SSem) (x : PyData) (S : List SD) : Option Out := (gs x S).bind fb
theorem for_one {gs : GS} {fb : SSem} {x : PyData} {xs : List PyData} {S S' : List SD} (h : forStep gs fb x S = some (.nx S')) : forGo gs fb (x :: xs) S = forGo gs fb xs S' := by
  unfold forStep at h
  rw [forGo_cons]
  cases q : gs x S with
  | none => rw [q] at h; cases h
  | some S1 =>
    rw [q] at h
    have h : fb S1 = some (.nx S') := h
    simp [h]
theorem for_ret {gs : GS} {fb : SSem} {x : PyData} {xs : List PyData} {S S' : List SD} {r : SD} (h : forStep gs fb x S = some (.rt r S')) : forGo gs fb (x :: xs) S = some (.rt r S') := by
  unfold forStep at h
  rw [forGo_cons]
  cases q : gs x S with
  | none => rw [q] at h; cases h
  | some S1 =>
    rw [q] at h
    have h : fb S1 = some (.rt r S') := h
    simp [h]
/-- the loop keeps to I (told by what has been gone through and what is to come) -/
theorem for_inv {gs : GS} {fb : SSem} (I : List PyData → List SD → Prop) (all : List PyData) : ∀ (xs pre : List PyData), pre ++ xs = all → (∀ pre x post S, pre ++ x :: post = all → I pre S → ∃ S', forStep gs fb x S = some (.nx S') ∧ I (pre ++ [x]) S') → ∀ S, I pre S →
    ∃ S', forGo gs fb xs S = some (.nx S') ∧ I all S'
  | [], pre, e, _, S, hS => ⟨S, rfl, by rw [← e]; simpa using hS⟩
  | x :: xs, pre, e, h, S, hS => by
    obtain ⟨S1, h1, h2⟩ := h pre x xs S e hS
    obtain ⟨S2, h3, h4⟩ := for_inv I all xs (pre ++ [x]) (by simpa using e) h S1 h2
    exact ⟨S2, by rw [for_one h1, h3], h4⟩
end DL

set_option Elab.async false
set_option linter.all false
set_option maxRecDepth 100000
set_option maxHeartbeats 4000000
/-! DM, part 2: plain facts of data. -/
namespace DL
open PySem L2

/-- what isinstance tells of -/
def okT : PyData → Bool
  | .dict kvs => kvs.isEmpty
  | _ => true
@[simp] theorem okT_n : okT .none = true := by simp only [okT]
@[simp] theorem okT_b (b : Bool) : okT (.bool b) = true := by simp only [okT]
@[simp] theorem okT_i (b : Int) : okT (.int b) = true := by simp only [okT]
@[simp] theorem okT_s (b : Str) : okT (.str b) = true := by simp only [okT]
@[simp] theorem okT_t (b : List PyData) : okT (.tuple b) = true := by simp only [okT]
@[simp] theorem okT_l (b : List PyData) : okT (.list b) = true := by simp only [okT]
@[simp] theorem okT_d : okT (.dict []) = true := by simp [okT]
theorem okT_dict {kvs : List (PyData × PyData)} (h : okT (.dict kvs) = true) : kvs = [] := by
  cases kvs with
  | nil => rfl
  | cons a b => cases h
def isInt : PyData → Bool
  | .int _ => true
  | _ => false
def isIn (a b : Int) : PyData → Bool
  | .int i => decide (a ≤ i) && decide (i ≤ b)
  | _ => false
theorem isIn_some {a b : Int} {v : PyData} (h : isIn a b v = true) : ∃ i, v = .int i ∧ a ≤ i ∧ i ≤ b := by
  cases v with
  | int i => simp [isIn] at h; exact ⟨i, rfl, h.1, h.2⟩
  | _ => cases h
theorem ints_of {a b : Int} : ∀ {xs : List PyData}, xs.all (isIn a b) = true → ∃ ns : List Int, xs = ns.map .int ∧ ∀ n ∈ ns, a ≤ n ∧ n ≤ b
  | [], _ => ⟨[], rfl, by simp⟩
  | x :: xs, h => by
    rw [List.all_cons, Bool.and_eq_true] at h
    obtain ⟨i, rfl, h1, h2⟩ := isIn_some h.1
    obtain ⟨ns, rfl, hn⟩ := ints_of h.2
    refine ⟨i :: ns, rfl, fun n hm => ?_⟩
    rcases List.mem_cons.mp hm with rfl | hm
    · exact ⟨h1, h2⟩
    · exact hn n hm
theorem all_ints {a b : Int} {ns : List Int} : (ns.map PyData.int).all (isIn a b) = ns.all fun n => decide (a ≤ n) && decide (n ≤ b) := by
  induction ns with
  | nil => rfl
  | cons n ns ih => rw [List.map_cons, List.all_cons, List.all_cons, ih]; rfl
@[simp] theorem at_0 (a : PyData) (r : List PyData) : atI (a :: r) 0 = some a := by simp [atI, ixN]
theorem atI_nat' (xs : List PyData) (k : Nat) : atI xs (k : Int) = xs[k]? := by
  unfold atI ixN
  simp only [Int.natCast_nonneg, if_true]
  by_cases h : k < xs.length
  · rw [if_pos (by omega)]; simp
  · rw [if_neg (by omega), List.getElem?_eq_none (by omega)]; rfl
@[simp] theorem at_1 (a b : PyData) (r : List PyData) : atI (a :: b :: r) 1 = some b := atI_nat' _ 1
@[simp] theorem at_2 (a b c : PyData) (r : List PyData) : atI (a :: b :: c :: r) 2 = some c := atI_nat' _ 2
@[simp] theorem at_3 (a b c d : PyData) (r : List PyData) : atI (a :: b :: c :: d :: r) 3 = some d := atI_nat' _ 3
@[simp] theorem at_4 (a b c d e : PyData) (r : List PyData) : atI (a :: b :: c :: d :: e :: r) 4 = some e := atI_nat' _ 4
theorem cut_to (xs : List PyData) (k : Nat) : cutD xs none (some (k : Int)) = xs.take k := by
  unfold cutD
  rw [HT.sIx_none, HT.sIx_nat]
  simp [List.take_eq_take_iff]
theorem cut_from (xs : List PyData) (k : Nat) : cutD xs (some (k : Int)) none = xs.drop k := by
  unfold cutD
  rw [HT.sIx_none, HT.sIx_nat]
  by_cases h : k ≤ xs.length
  · rw [Nat.min_eq_left h, List.take_of_length_le (by simp)]
  · rw [Nat.min_eq_right (by omega), List.drop_eq_nil_of_le (by omega), List.drop_eq_nil_of_le (by omega)]; simp
theorem cut_to' (xs : List PyData) (k : Int) (n : Nat) (h : k = n) : cutD xs none (some k) = xs.take n := by rw [h]; exact cut_to xs n
theorem cut_from' (xs : List PyData) (k : Int) (n : Nat) (h : k = n) : cutD xs (some k) none = xs.drop n := by rw [h]; exact cut_from xs n
/-! rising -/
def rising : List Int → Bool
  | [] => true
  | [_] => true
  | x :: y :: r => decide (x < y) && rising (y :: r)
theorem rising_pw : ∀ ns : List Int, rising ns = true ↔ ns.Pairwise (· < ·)
  | [] => by simp [rising]
  | [x] => by simp [rising]
  | x :: y :: r => by
    have ih := rising_pw (y :: r)
    simp only [rising, Bool.and_eq_true, decide_eq_true_eq, ih]
    constructor
    · rintro ⟨h1, h2⟩
      refine List.pairwise_cons.mpr ⟨fun z hz => ?_, h2⟩
      rcases List.mem_cons.mp hz with rfl | hz
      · exact h1
      · exact Int.lt_trans h1 ((List.pairwise_cons.mp h2).1 z hz)
    · intro h
      have h' := List.pairwise_cons.mp h
      exact ⟨h'.1 y (by simp), h'.2⟩
theorem setI_self : ∀ {ns : List Int}, ns.Pairwise (· < ·) → setI ns = ns := fun {ns} h => strict_unique (setI_sorted ns) h fun k => setI_mem k ns
theorem rising_set (ns : List Int) : (decide (ns = setI ns)) = rising ns := by
  rw [Bool.eq_iff_iff, decide_eq_true_eq, rising_pw]
  exact ⟨fun h => by rw [h]; exact setI_sorted ns, fun h => (setI_self h).symm⟩
theorem eqvAll_ints : ∀ ns ms : List Int, PyData.eqvAll (ns.map .int) (ms.map .int) = decide (ns = ms)
  | [], [] => by simp [PyData.eqvAll]
  | [], _ :: _ => by simp [PyData.eqvAll]
  | _ :: _, [] => by simp [PyData.eqvAll]
  | n :: ns, m :: ms => by
    simp only [List.map_cons, PyData.eqvAll, PyData.eqv, eqvAll_ints ns ms]
    rw [Bool.eq_iff_iff]
    simp
theorem fit_ints (n : Nat) (ns : List Int) : fitN (n + 1) (.list (ns.map .int)) = true := by
  rw [fit_list, List.all_eq_true]
  intro x hx
  obtain ⟨i, _, rfl⟩ := List.mem_map.mp hx
  exact fit_int n i
theorem fit_intsT (n : Nat) (ns : List Int) : fitN (n + 1) (.tuple (ns.map .int)) = true := by
  rw [fit_tuple, List.all_eq_true]
  intro x hx
  obtain ⟨i, _, rfl⟩ := List.mem_map.mp hx
  exact fit_int n i
theorem dEq_ints (ns ms : List Int) : dEq (.list (ns.map .int)) (.list (ms.map .int)) = some (.bool (decide (ns = ms))) := by
  have : dEq (.list (ns.map .int)) (.list (ms.map .int)) = if fitN 60 (.list (ns.map .int)) = true ∧ fitN 60 (.list (ms.map .int)) = true then some (.bool (PyData.eqv (.list (ns.map .int)) (.list (ms.map .int)))) else none := rfl
  rw [this, if_pos ⟨fit_ints 59 ns, fit_ints 59 ms⟩]
  simp only [PyData.eqv, eqvAll_ints]
theorem dSetL_ints {ns : List Int} (h1 : ns.length ≤ 1000) (h2 : (setI ns).length < 64) : dSetL [.tuple (ns.map .int)] = some ((setI ns).map .int) := by
  simp only [dSetL, dInts_map, Option.bind_some]
  rw [if_pos ⟨h1, h2⟩]
/-- few members: within a .. b -/
theorem setI_few {ns : List Int} {m : Nat} (h : ∀ n ∈ ns, 0 ≤ n ∧ n < m) : (setI ns).length ≤ m := by
  have hs := setI_sorted ns
  have hm : ∀ k ∈ setI ns, 0 ≤ k ∧ k < m := fun k hk => h k ((setI_mem k ns).mp hk)
  generalize setI ns = l at hs hm
  have key : ∀ (l : List Int) (a : Int), l.Pairwise (· < ·) → (∀ k ∈ l, a ≤ k ∧ k < m) → 0 ≤ a → (l.length : Int) ≤ if a ≤ m then m - a else 0 := by
    intro l
    induction l with
    | nil => intro a _ _ ha; simp; split <;> omega
    | cons x l ih =>
      intro a hp hk ha
      have hp' := List.pairwise_cons.mp hp
      have hx := hk x (by simp)
      have := ih (x + 1) hp'.2 (fun k hk' => ⟨by have := hp'.1 k hk'; omega, (hk k (List.mem_cons_of_mem _ hk')).2⟩) (by omega)
      simp only [List.length_cons]
      split at this <;> split <;> omega
  have := key l 0 hs hm (Int.le_refl 0)
  split at this <;> omega
end DL

set_option Elab.async false
set_option linter.all false
set_option maxRecDepth 100000
set_option maxHeartbeats 4000000
/-! DM, part 3: first ones, indices, filtered counts. -/
namespace DL
open PySem L2

theorem fit_self {n : Nat} {d : PyData} (h : fitN n d = true) : PyData.eqv d d = true := SeqAt.eqv_refl d (fit_lay h)
def addF (acc : List PyData) (x : PyData) : List PyData := if (acc.any fun z => PyData.eqv z x) = true then acc else acc ++ [x]
def byF (xs : List PyData) : List PyData := xs.foldl addF []
theorem byF_snoc (xs : List PyData) (x : PyData) : byF (xs ++ [x]) = addF (byF xs) x := by simp [byF, List.foldl_append]
@[simp] theorem byF_nil : byF [] = [] := rfl
theorem snoc_ind {α : Type} {P : List α → Prop} (h0 : P []) (h1 : ∀ xs x, P xs → P (xs ++ [x])) : ∀ xs, P xs := fun xs => by
  have : ∀ n, ∀ xs : List α, xs.length = n → P xs := by
    intro n
    induction n with
    | zero => intro xs h; rw [List.eq_nil_of_length_eq_zero h]; exact h0
    | succ n ih =>
      intro xs h
      have hne : xs ≠ [] := fun e => by rw [e] at h; cases h
      rw [← List.dropLast_concat_getLast hne]
      exact h1 _ _ (ih _ (by rw [List.length_dropLast, h]; rfl))
  exact this _ xs rfl
theorem byF_sub : ∀ (xs : List PyData), ∀ y ∈ byF xs, y ∈ xs := snoc_ind (by simp) fun xs x ih y hy => by
  rw [byF_snoc] at hy
  unfold addF at hy
  split at hy
  · exact List.mem_append_left _ (ih y hy)
  · rcases List.mem_append.mp hy with h | h
    · exact List.mem_append_left _ (ih y h)
    · exact List.mem_append_right _ h
theorem byF_len : ∀ (xs : List PyData), (byF xs).length ≤ xs.length := snoc_ind (by simp) fun xs x ih => by
  rw [byF_snoc]
  unfold addF
  split <;> simp <;> omega
theorem byF_has {n : Nat} : ∀ (xs : List PyData), (∀ x ∈ xs, fitN n x = true) → ∀ x ∈ xs, (byF xs).any (fun z => PyData.eqv z x) = true := snoc_ind (by simp) fun xs x ih hf y hy => by
  rw [byF_snoc]
  unfold addF
  rcases List.mem_append.mp hy with h | h
  · have := ih (fun z hz => hf z (List.mem_append_left _ hz)) y h
    split
    · exact this
    · rw [List.any_append, this]; rfl
  · have hx : y = x := by simpa using h
    subst hx
    split
    · assumption
    · rw [List.any_append]
      simp [fit_self (hf y hy)]
theorem byF_ne {n : Nat} {xs : List PyData} (h : xs ≠ []) (hf : ∀ x ∈ xs, fitN n x = true) : 1 ≤ (byF xs).length := by
  cases xs with
  | nil => exact absurd rfl h
  | cons x r =>
    have := byF_has (x :: r) hf x (by simp)
    cases q : byF (x :: r) with
    | nil => rw [q] at this; simp at this
    | cons a b => simp
theorem firstIx_any {d : PyData} : ∀ {xs : List PyData}, xs.any (fun z => PyData.eqv z d) = true → ∃ j, firstIx d xs = some j ∧ j < xs.length
  | [], h => by simp at h
  | z :: r, h => by
    unfold firstIx
    by_cases hz : PyData.eqv z d = true
    · exact ⟨0, by rw [if_pos hz], by simp⟩
    · rw [if_neg hz]
      have : r.any (fun z => PyData.eqv z d) = true := by simpa [hz] using h
      obtain ⟨j, h1, h2⟩ := firstIx_any this
      exact ⟨j + 1, by rw [h1]; rfl, by simp; omega⟩
/-- where each item's like stands among the first ones -/
def numb (xs : List PyData) : List Int := xs.map fun x => (((firstIx x (byF xs)).getD 0 : Nat) : Int)
theorem numb_len (xs : List PyData) : (numb xs).length = xs.length := by simp [numb]
theorem numb_rng {n : Nat} {xs : List PyData} (hf : ∀ x ∈ xs, fitN n x = true) : ∀ k ∈ numb xs, 0 ≤ k ∧ k < (byF xs).length := fun k hk => by
  obtain ⟨x, hx, rfl⟩ := List.mem_map.mp hk
  obtain ⟨j, h1, h2⟩ := firstIx_any (byF_has xs hf x hx)
  rw [h1]
  simp; omega
theorem fit_byF {n : Nat} {xs : List PyData} (hf : ∀ x ∈ xs, fitN n x = true) : fitN (n + 1) (.list (byF xs)) = true := by
  rw [fit_list, List.all_eq_true]
  exact fun x hx => hf x (byF_sub xs x hx)
/-- rising, within 0 .. m - 1 -/
def LotI (m : Int) (ns : List Int) : Prop := ns.Pairwise (· < ·) ∧ ∀ n ∈ ns, 0 ≤ n ∧ n < m
def selE (p : PyData → Bool) : PyData → Option PyData
  | .tuple [.int a, y] => if p y = true then some (.int a) else none
  | _ => none
def selR (p : Int → Bool) : PyData → Option PyData
  | .int a => if p a = true then some (.int a) else none
  | _ => none
theorem enumF (p : PyData → Bool) : ∀ (c : Int) (xs : List PyData), ∃ ns : List Int, (enumD c xs).filterMap (selE p) = ns.map PyData.int ∧ ns.Pairwise (· < ·) ∧ ∀ n ∈ ns, c ≤ n ∧ n < c + xs.length
  | c, [] => ⟨[], rfl, .nil, by simp⟩
  | c, x :: xs => by
    obtain ⟨ns, h1, h2, h3⟩ := enumF p (c + 1) xs
    by_cases hp : p x = true
    · refine ⟨c :: ns, ?_, List.pairwise_cons.mpr ⟨fun n hn => by have := h3 n hn; omega, h2⟩, fun n hn => ?_⟩
      · simp [enumD, selE, hp, h1]
      · rcases List.mem_cons.mp hn with rfl | hn
        · simp; omega
        · have := h3 n hn; simp; omega
    · refine ⟨ns, ?_, h2, fun n hn => ?_⟩
      · simp [enumD, selE, hp, h1]
      · have := h3 n hn; simp; omega
theorem enumD_mem {y : PyData} : ∀ {c : Int} {xs : List PyData}, y ∈ enumD c xs → ∃ a x, y = .tuple [.int a, x] ∧ x ∈ xs ∧ c ≤ a ∧ a < c + xs.length
  | c, [], h => by simp [enumD] at h
  | c, x :: xs, h => by
    simp only [enumD, List.mem_cons] at h
    rcases h with h | h
    · exact ⟨c, x, h, by simp, by omega, by simp; omega⟩
    · obtain ⟨a, z, h1, h2, h3, h4⟩ := enumD_mem h
      exact ⟨a, z, h1, by simp [h2], by omega, by simp; omega⟩
theorem rngF (p : Int → Bool) (n : Nat) : ∃ ns : List Int, (rngD 0 n).filterMap (selR p) = ns.map PyData.int ∧ LotI n ns := by
  refine ⟨((List.range n).map fun (i : Nat) => (i : Int)).filter p, ?_, ?_, fun k hk => ?_⟩
  · unfold rngD
    rw [List.filterMap_map]
    have key : ∀ l : List Nat, List.filterMap (fun i : Nat => selR p (.int (0 + (i : Int)))) l = List.map PyData.int (List.filter p (l.map fun (i : Nat) => (i : Int))) := by
      intro l
      induction l with
      | nil => rfl
      | cons i l ih =>
        rw [List.filterMap_cons, ih]
        by_cases hp : p (i : Int) = true <;> simp [selR, hp]
    exact key _
  · refine List.Pairwise.filter _ ?_
    rw [List.pairwise_map]
    exact List.pairwise_lt_range.imp fun h => by omega
  · have := (List.mem_filter.mp hk).1
    obtain ⟨i, hi, rfl⟩ := List.mem_map.mp this
    have := List.mem_range.mp hi
    omega
theorem rngD_mem {y : PyData} {n : Nat} (h : y ∈ rngD 0 n) : ∃ i : Nat, y = .int (i : Int) ∧ i < n := by
  unfold rngD at h
  obtain ⟨i, hi, rfl⟩ := List.mem_map.mp h
  exact ⟨i, by simp, List.mem_range.mp hi⟩
end DL

set_option Elab.async false
set_option linter.all false
set_option maxRecDepth 100000
set_option maxHeartbeats 4000000
/-! DM, part 4: how long a repr is. -/
namespace DL
open PySem L2
mutual
def wt : PyData → Nat
  | .none => 4
  | .bool _ => 5
  | .int _ => 21
  | .str x => (reprText x).length
  | .list xs => wtL xs + 3
  | .tuple xs => wtL xs + 3
  | .dict _ => 0
def wtL : List PyData → Nat
  | [] => 0
  | x :: xs => wt x + 2 + wtL xs
end
mutual
def okR : PyData → Bool
  | .none => true
  | .bool _ => true
  | .int i => decide (i.natAbs < 100000000000000000000)
  | .str _ => true
  | .list xs => okRL xs
  | .tuple xs => okRL xs
  | .dict _ => false
def okRL : List PyData → Bool
  | [] => true
  | x :: xs => okR x && okRL xs
end
mutual
theorem shown_le : ∀ d : PyData, okR d = true → d.shown.length ≤ wt d ∧ d.showable = true ∧ d.hasDict = false
  | .none, _ => ⟨by simp only [PyData.shown, wt]; decide, by simp only [PyData.showable], by simp only [PyData.hasDict]⟩
  | .bool b, _ => ⟨by cases b <;> simp only [PyData.shown, wt] <;> decide, by simp only [PyData.showable], by simp only [PyData.hasDict]⟩
  | .int i, h => by
    have h : i.natAbs < 10 ^ 20 := by simpa [okR] using h
    refine ⟨?_, ?_, by simp only [PyData.hasDict]⟩
    · simp only [PyData.shown, wt]
      exact Nat.le_trans (Nat.le_of_eq (ofString_length _)) (int_text_length_le10 (k := 20) (by decide) h)
    · simp only [PyData.showable, decide_eq_true_eq]
      by_cases h0 : i.natAbs = 0
      · rw [h0]; decide
      · exact (Nat.log2_lt h0).mpr (Nat.lt_of_lt_of_le h (Nat.le_trans (by decide : 10 ^ 20 ≤ 2 ^ 67) (Nat.pow_le_pow_right (by decide) (by decide))))
  | .str x, _ => ⟨by simp only [PyData.shown, wt]; exact Nat.le_refl _, by simp only [PyData.showable], by simp only [PyData.hasDict]⟩
  | .list xs, h => by
    obtain ⟨h1, h2, h3, h4⟩ := shownAll_le xs (by simpa [okR] using h)
    refine ⟨?_, by simpa only [PyData.showable] using h2, by simpa only [PyData.hasDict] using h3⟩
    simp only [PyData.shown, wt]
    have := listText_len_le (PyData.shownAll xs)
    omega
  | .tuple xs, h => by
    obtain ⟨h1, h2, h3, h4⟩ := shownAll_le xs (by simpa [okR] using h)
    refine ⟨?_, by simpa only [PyData.showable] using h2, by simpa only [PyData.hasDict] using h3⟩
    simp only [PyData.shown, wt]
    have := tupleText_len_le (PyData.shownAll xs)
    omega
  | .dict _, h => by simp [okR] at h
theorem shownAll_le : ∀ xs : List PyData, okRL xs = true → ((PyData.shownAll xs).map (·.length)).sum + 2 * (PyData.shownAll xs).length ≤ wtL xs ∧ PyData.showableAll xs = true ∧ PyData.hasDictAll xs = false ∧ (PyData.shownAll xs).length = xs.length
  | [], _ => ⟨by simp [PyData.shownAll, wtL], by simp only [PyData.showableAll], by simp only [PyData.hasDictAll], by simp [PyData.shownAll]⟩
  | x :: xs, h => by
    have h' := Bool.and_eq_true_iff.mp (show (okR x && okRL xs) = true by simpa [okRL] using h)
    obtain ⟨a1, a2, a3⟩ := shown_le x h'.1
    obtain ⟨b1, b2, b3, b4⟩ := shownAll_le xs h'.2
    refine ⟨?_, by simp only [PyData.showableAll, a2, b2, Bool.and_self], by simp only [PyData.hasDictAll, a3, b3, Bool.or_self], by simp [PyData.shownAll, b4]⟩
    simp only [PyData.shownAll, wtL, List.map_cons, List.sum_cons, List.length_cons]
    omega
end
theorem reprOk_of {d : PyData} (h1 : okR d = true) (h2 : wt d ≤ 1000000) (h3 : d.depth ≤ 60) : reprOk d = true := by
  obtain ⟨a1, a2, a3⟩ := shown_le d h1
  have a4 : d.shown.length ≤ 1000000 := by omega
  simp only [reprOk, a2, a3, a4, h3, Bool.not_false, Bool.true_or, Bool.and_self, decide_true]
/-- items of depth n at most, w signs in all -/
structure G (n w : Nat) (xs : List PyData) : Prop where
  ok : okRL xs = true
  wt : wtL xs ≤ w
  dp : ∀ x ∈ xs, x.depth ≤ n
theorem okRL_all : ∀ xs : List PyData, okRL xs = true ↔ ∀ x ∈ xs, okR x = true
  | [] => by simp [okRL]
  | x :: xs => by simp [okRL, okRL_all xs]
theorem wtL_append : ∀ xs ys : List PyData, wtL (xs ++ ys) = wtL xs + wtL ys
  | [], ys => by simp [wtL]
  | x :: xs, ys => by simp only [List.cons_append, wtL, wtL_append xs ys]; omega
theorem wtL_reverse (xs : List PyData) : wtL xs.reverse = wtL xs := by
  induction xs with
  | nil => rfl
  | cons x xs ih => rw [List.reverse_cons, wtL_append, ih]; simp only [wtL]; omega
variable {n m w v : Nat} {xs ys : List PyData}
theorem G.append (a : G n w xs) (b : G n v ys) : G n (w + v) (xs ++ ys) := by
  refine ⟨(okRL_all _).mpr fun x hx => ?_, by rw [wtL_append]; have := a.wt; have := b.wt; omega, fun x hx => ?_⟩
  · rcases List.mem_append.mp hx with h | h
    · exact (okRL_all _).mp a.ok x h
    · exact (okRL_all _).mp b.ok x h
  · rcases List.mem_append.mp hx with h | h
    · exact a.dp x h
    · exact b.dp x h
theorem G.take (a : G n w xs) (k : Nat) : G n w (xs.take k) := by
  have e := wtL_append (xs.take k) (xs.drop k)
  rw [List.take_append_drop] at e
  exact ⟨(okRL_all _).mpr fun x hx => (okRL_all _).mp a.ok x (List.mem_of_mem_take hx), by have := a.wt; omega, fun x hx => a.dp x (List.mem_of_mem_take hx)⟩
theorem G.drop (a : G n w xs) (k : Nat) : G n w (xs.drop k) := by
  have e := wtL_append (xs.take k) (xs.drop k)
  rw [List.take_append_drop] at e
  exact ⟨(okRL_all _).mpr fun x hx => (okRL_all _).mp a.ok x (List.mem_of_mem_drop hx), by have := a.wt; omega, fun x hx => a.dp x (List.mem_of_mem_drop hx)⟩
theorem G.reverse (a : G n w xs) : G n w xs.reverse :=
  ⟨(okRL_all _).mpr fun x hx => (okRL_all _).mp a.ok x (by simpa using hx), by rw [wtL_reverse]; exact a.wt, fun x hx => a.dp x (by simpa using hx)⟩
theorem G.mono (a : G n w xs) (h1 : n ≤ m) (h2 : w ≤ v) : G m v xs := ⟨a.ok, by have := a.wt; omega, fun x hx => by have := a.dp x hx; omega⟩
theorem G.nil : G n w [] := ⟨by simp [okRL], by simp [wtL], by simp⟩
theorem G.rep (a : G n w xs) : ∀ k : Nat, G n (k * w) (List.replicate k xs).flatten
  | 0 => .nil
  | k + 1 => by
    rw [List.replicate_succ, List.flatten_cons]
    exact (a.append (G.rep a k)).mono (Nat.le_refl _) (by rw [Nat.succ_mul]; omega)
theorem G.one {x : PyData} (h1 : okR x = true) (h2 : DL.wt x + 2 ≤ w) (h3 : x.depth ≤ n) : G n w [x] := ⟨by simp [okRL, h1], by simp only [wtL]; omega, by simpa using h3⟩
theorem depth_tuple (h : ∀ x ∈ xs, x.depth ≤ n) : (PyData.tuple xs).depth ≤ n + 1 := by
  simp only [PyData.depth]
  have : PyData.depthAll xs ≤ n := by
    have e := depthAll_le n xs
    rw [← decide_eq_true_eq (p := PyData.depthAll xs ≤ n), e, List.all_eq_true]
    intro x hx
    simpa using h x hx
  omega
theorem depth_list (h : ∀ x ∈ xs, x.depth ≤ n) : (PyData.list xs).depth ≤ n + 1 := by
  have := depth_tuple h
  simpa only [PyData.depth] using this
theorem G.tuple (a : G n w xs) : okR (.tuple xs) = true ∧ DL.wt (.tuple xs) ≤ w + 3 ∧ (PyData.tuple xs).depth ≤ n + 1 := ⟨by simpa only [okR] using a.ok, by simp only [DL.wt]; have := a.wt; omega, depth_tuple a.dp⟩
theorem G.list (a : G n w xs) : okR (.list xs) = true ∧ DL.wt (.list xs) ≤ w + 3 ∧ (PyData.list xs).depth ≤ n + 1 := ⟨by simpa only [okR] using a.ok, by simp only [DL.wt]; have := a.wt; omega, depth_list a.dp⟩
theorem G.ints {ns : List Int} (h : ∀ k ∈ ns, -1000 ≤ k ∧ k ≤ 1000) : G 0 (23 * ns.length) (ns.map .int) := by
  induction ns with
  | nil => exact .nil
  | cons k ns ih =>
    have hk := h k (by simp)
    have := (G.one (n := 0) (w := 23) (x := .int k) (by simp only [okR, decide_eq_true_eq]; omega) (by simp only [DL.wt]; omega) (by simp only [PyData.depth]; omega)).append (ih fun j hj => h j (List.mem_cons_of_mem _ hj))
    simp only [List.map_cons, List.length_cons]
    exact this.mono (Nat.le_refl _) (by omega)
end DL

set_option Elab.async false
set_option linter.all false
set_option maxRecDepth 100000
set_option maxHeartbeats 4000000
/-! WL0: the mirrors stepped through from the front (for simp): what follows stays closed until it is reached. -/
namespace DL0
open PySem L2 DL

/-- r ends, with Q -/
def OV {α : Type} (r : Option α) (Q : α → Prop) : Prop := ∃ a, r = some a ∧ Q a
section
variable {α β : Type} {r r' : Option α} {Q Q' : α → Prop}
theorem OV_congr (h : r = r') : OV r Q = OV r' Q := by rw [h]
@[simp] theorem OV_some (a : α) : OV (some a) Q = Q a := propext ⟨fun ⟨_, h, q⟩ => (by cases h; exact q), fun q => ⟨a, rfl, q⟩⟩
@[simp] theorem OV_none : OV (none : Option α) Q = False := propext ⟨fun ⟨_, h, _⟩ => (by cases h), False.elim⟩
@[simp] theorem OV_bind (f : β → Option α) (s : Option β) : OV (s.bind f) Q = OV s fun a => OV (f a) Q := by cases s <;> simp
@[simp] theorem OV_map (f : β → α) (s : Option β) : OV (s.map f) Q = OV s fun a => Q (f a) := by cases s <;> simp
@[simp] theorem OV_ite (c : Prop) [Decidable c] (a b : Option α) : OV (if c then a else b) Q = if c then OV a Q else OV b Q := by split <;> rfl
theorem OV.use {P : α → Prop} (h : OV r P) (k : ∀ a, P a → Q a) : OV r Q := by obtain ⟨a, h1, h2⟩ := h; exact ⟨a, h1, k a h2⟩
theorem OV.eq {c : α} (h : OV r fun q => q = c) : r = some c := by obtain ⟨a, h1, h2⟩ := h; rw [h1, h2]
theorem OV.of {c : α} (h : r = some c) (q : Q c) : OV r Q := ⟨c, h, q⟩
end

/-- f, read at the slots S, ends, with Q -/
def WP {β : Type} (f : List SD → Option β) (S : List SD) (Q : β → Prop) : Prop := OV (f S) Q
theorem WP_congr {β : Type} {f : List SD → Option β} {S S' : List SD} {Q : β → Prop} (h : S = S') : WP f S Q = WP f S' Q := by rw [h]
theorem WP.use {β : Type} {f : List SD → Option β} {S : List SD} {P Q : β → Prop} (h : WP f S P) (k : ∀ a, P a → Q a) : WP f S Q := OV.use h k
/-- a target -/
def WG (g : GS) (x : PyData) (S : List SD) (Q : List SD → Prop) : Prop := OV (g x S) Q
theorem WG_congr {g : GS} {x x' : PyData} {S S' : List SD} {Q : List SD → Prop} (hx : x = x') (h : S = S') : WG g x S Q = WG g x' S' Q := by rw [h, hx]
def WGs (g : List PyData → List SD → Option (List SD)) (x : List PyData) (S : List SD) (Q : List SD → Prop) : Prop := OV (g x S) Q
theorem WGs_congr {g : List PyData → List SD → Option (List SD)} {x x' : List PyData} {S S' : List SD} {Q : List SD → Prop} (hx : x = x') (h : S = S') : WGs g x S Q = WGs g x' S' Q := by rw [h, hx]
section
variable {S : List SD} {Q : Op × List SD → Prop} {QB : Bool × List SD → Prop} {QA : List Op × List SD → Prop} {QL : List PyData × List SD → Prop} {QD : PyData × List SD → Prop} {QO : Out → Prop} {QV : SD × List SD → Prop} {QR : (Int × Int) × List SD → Prop} {QP : Option Int × List SD → Prop} {QG : List SD → Prop}
@[simp] theorem w_var (i : Nat) : WP (sVar i) S Q = (sdTold (S[i]?) = true ∧ Q (.slot i, S)) := by
  show OV (if sdTold (S[i]?) = true then some (Op.slot i, S) else none) Q = _
  by_cases h : sdTold (S[i]?) = true <;> simp [h]
@[simp] theorem w_c (x : PyData) : WP (sC x) S Q = Q (.dat x, S) := OV_some _
@[simp] theorem w_take (f : ES) : WP (sTake f) S QD = WP f S fun p => OV (takeO p.2 p.1) QD := OV_bind _ _
@[simp] theorem w_dat (f : DS) : WP (sDat f) S Q = WP f S fun p => Q (.dat p.1, p.2) := OV_map _ _
@[simp] theorem w_keep (f : LS) : WP (sKeep f) S Q = WP f S fun p => Q (.dat (.list p.1), p.2) := OV_map _ _
@[simp] theorem w_nil : WP sNil S QA = QA ([], S) := OV_some _
@[simp] theorem w_cons (f : ES) (g : AS) : WP (sCons f g) S QA = WP f S fun p => WP g p.2 fun q => QA (p.1 :: q.1, q.2) := by
  show OV ((f S).bind fun p => (g p.2).map fun q => (p.1 :: q.1, q.2)) QA = _
  simp only [OV_bind, OV_map]; rfl
@[simp] theorem w_bin (g : PyData → PyData → Option PyData) (f f' : ES) : WP (sBin g f f') S Q = WP f S fun p => WP f' p.2 fun q => OV (p.1.get q.2) fun x => OV (q.1.get q.2) fun y => OV (g x y) fun z => Q (.dat z, q.2) := by
  show OV ((f S).bind fun p => (f' p.2).bind fun q => (p.1.get q.2).bind fun x => (q.1.get q.2).bind fun y => (g x y).map fun z => (Op.dat z, q.2)) Q = _
  simp only [OV_bind, OV_map]; rfl
@[simp] theorem w_binL (g : PyData → PyData → Option (List PyData)) (f f' : ES) : WP (sBinL g f f') S QL = WP f S fun p => WP f' p.2 fun q => OV (p.1.get q.2) fun x => OV (q.1.get q.2) fun y => OV (g x y) fun z => QL (z, q.2) := by
  show OV ((f S).bind fun p => (f' p.2).bind fun q => (p.1.get q.2).bind fun x => (q.1.get q.2).bind fun y => (g x y).map fun z => (z, q.2)) QL = _
  simp only [OV_bind, OV_map]; rfl
@[simp] theorem w_test (f : ES) : WP (sTest f) S QB = WP f S fun p => OV (p.1.get p.2) fun x => OV (dBool x) fun b => QB (b, p.2) := by
  show OV ((f S).bind fun p => (p.1.get p.2).bind fun x => (dBool x).map fun b => (b, p.2)) QB = _
  simp only [OV_bind, OV_map]; rfl
@[simp] theorem w_and (f g : BS) : WP (sAnd f g) S QB = WP f S fun p => if p.1 = true then WP g p.2 QB else QB (false, p.2) := by
  show OV ((f S).bind fun p => if p.1 = true then g p.2 else some (false, p.2)) QB = _
  simp only [OV_bind, OV_ite, OV_some]; rfl
@[simp] theorem w_or (f g : BS) : WP (sOr f g) S QB = WP f S fun p => if p.1 = true then QB (true, p.2) else WP g p.2 QB := by
  show OV ((f S).bind fun p => if p.1 = true then some (true, p.2) else g p.2) QB = _
  simp only [OV_bind, OV_ite, OV_some]; rfl
@[simp] theorem w_not (f : BS) : WP (sNot f) S QB = WP f S fun p => QB (!p.1, p.2) := OV_map _ _
@[simp] theorem w_andV (f g : ES) : WP (sAndV f g) S Q = WP f S fun p => OV (p.1.get p.2) fun x => OV (dBool x) fun c => if c = true then WP g p.2 Q else Q (.dat (.bool false), p.2) := by
  show OV ((f S).bind fun p => (p.1.get p.2).bind fun x => (dBool x).bind fun c => if c = true then g p.2 else some (.dat (.bool false), p.2)) Q = _
  simp only [OV_bind, OV_ite, OV_some]; rfl
@[simp] theorem w_orV (f g : ES) : WP (sOrV f g) S Q = WP f S fun p => OV (p.1.get p.2) fun x => OV (dBool x) fun c => if c = true then Q (.dat (.bool true), p.2) else WP g p.2 Q := by
  show OV ((f S).bind fun p => (p.1.get p.2).bind fun x => (dBool x).bind fun c => if c = true then some (.dat (.bool true), p.2) else g p.2) Q = _
  simp only [OV_bind, OV_ite, OV_some]; rfl
@[simp] theorem w_notV (f : ES) : WP (sNotV f) S Q = WP f S fun p => OV (p.1.get p.2) fun x => OV (dBool x) fun c => Q (.dat (.bool (!c)), p.2) := by
  show OV ((f S).bind fun p => (p.1.get p.2).bind fun x => (dBool x).map fun c => (.dat (.bool (!c)), p.2)) Q = _
  simp only [OV_bind, OV_map]; rfl
@[simp] theorem w_if {α : Type} (t : BS) (f g : List SD → Option α) {Q : α → Prop} : WP (sIf t f g) S Q = WP t S fun p => if p.1 = true then WP f p.2 Q else WP g p.2 Q := by
  show OV ((t S).bind fun p => if p.1 = true then f p.2 else g p.2) Q = _
  simp only [OV_bind, OV_ite]; rfl
@[simp] theorem w_chain (g g' : PyData → PyData → Option PyData) (f f' f'' : ES) : WP (sChain g g' f f' f'') S Q = WP f S fun p => WP f' p.2 fun q => OV (p.1.get q.2) fun x => OV (q.1.get q.2) fun y => OV (g x y) fun z => OV (dBool z) fun k =>
    if k = true then WP f'' q.2 fun s => OV (q.1.get s.2) fun y' => OV (s.1.get s.2) fun w => OV (g' y' w) fun z' => Q (.dat z', s.2) else Q (.dat (.bool false), q.2) := by
  show OV ((f S).bind fun p => (f' p.2).bind fun q => (p.1.get q.2).bind fun x => (q.1.get q.2).bind fun y => (g x y).bind fun z => (dBool z).bind fun k =>
    if k = true then (f'' q.2).bind fun s => (q.1.get s.2).bind fun y' => (s.1.get s.2).bind fun w => (g' y' w).map fun z' => (.dat z', s.2) else some (.dat (.bool false), q.2)) Q = _
  simp only [OV_bind, OV_ite, OV_map, OV_some]; rfl
@[simp] theorem w_un (g : PyData → Option PyData) (f : ES) : WP (sUn g f) S Q = WP f S fun p => OV (p.1.get p.2) fun x => OV (g x) fun z => Q (.dat z, p.2) := by
  show OV ((f S).bind fun p => (p.1.get p.2).bind fun x => (g x).map fun z => (.dat z, p.2)) Q = _
  simp only [OV_bind, OV_map]; rfl
@[simp] theorem w_tup (f : AS) : WP (sTup f) S Q = WP f S fun p => OV (takeAll p.2 p.1) fun q => q.1.length ≤ 100000 ∧ Q (.dat (.tuple q.1), q.2) := by
  show OV ((f S).bind fun p => (takeAll p.2 p.1).bind fun q => if q.1.length ≤ 100000 then some (.dat (.tuple q.1), q.2) else none) Q = _
  simp only [OV_bind]
  refine congrArg (OV (f S)) (funext fun p => congrArg (OV _) (funext fun q => ?_))
  by_cases h : q.1.length ≤ 100000 <;> simp [h]
@[simp] theorem w_lst (f : AS) : WP (sLst f) S QL = WP f S fun p => OV (takeAll p.2 p.1) fun q => q.1.length ≤ 100000 ∧ QL (q.1, q.2) := by
  show OV ((f S).bind fun p => (takeAll p.2 p.1).bind fun q => if q.1.length ≤ 100000 then some (q.1, q.2) else none) QL = _
  simp only [OV_bind]
  refine congrArg (OV (f S)) (funext fun p => congrArg (OV _) (funext fun q => ?_))
  by_cases h : q.1.length ≤ 100000 <;> simp [h]
@[simp] theorem w_cb (g : List PyData → Option PyData) (f : AS) : WP (sCB g f) S Q = WP f S fun p => OV (getAll p.2 p.1) fun xs => OV (g xs) fun z => Q (.dat z, p.2) := by
  show OV ((f S).bind fun p => (getAll p.2 p.1).bind fun xs => (g xs).map fun z => (.dat z, p.2)) Q = _
  simp only [OV_bind, OV_map]; rfl
@[simp] theorem w_cbl (g : List PyData → Option (List PyData)) (f : AS) : WP (sCBL g f) S QL = WP f S fun p => OV (getAll p.2 p.1) fun xs => OV (g xs) fun z => QL (z, p.2) := by
  show OV ((f S).bind fun p => (getAll p.2 p.1).bind fun xs => (g xs).map fun z => (z, p.2)) QL = _
  simp only [OV_bind, OV_map]; rfl
@[simp] theorem w_next : WP sNext S QO = QO (.nx S) := OV_some _
@[simp] theorem w_break : WP sBreak S QO = QO (.bk S) := OV_some _
@[simp] theorem w_cont : WP sCont S QO = QO (.ct S) := OV_some _
@[simp] theorem w_never : WP sNever S QO = False := OV_none
@[simp] theorem w_drop (f : ES) : WP (sDrop f) S QO = WP f S fun p => QO (.nx p.2) := OV_map _ _
@[simp] theorem w_ret (f : DS) : WP (sRet f) S QO = WP f S fun p => QO (.rt (.d p.1) p.2) := OV_map _ _
@[simp] theorem w_retL (f : LS) : WP (sRetL f) S QO = WP f S fun p => QO (.rt (.own false p.1) p.2) := OV_map _ _
@[simp] theorem w_retV (i : Nat) : WP (sRetV i) S QO = OV (retS S i (S[i]?)) QO := rfl
@[simp] theorem w_retN : WP sRetN S QO = QO (.rt (.d .none) S) := OV_some _
@[simp] theorem w_asg (f : DS) (g : GS) : WP (sAsg f g) S QO = WP f S fun p => WG g p.1 p.2 fun S1 => QO (.nx S1) := by
  show OV ((f S).bind fun p => (g p.1 p.2).map fun S1 => .nx S1) QO = _
  simp only [OV_bind, OV_map]; rfl
@[simp] theorem w_asgL (f : LS) (i : Nat) : WP (sAsgL f i) S QO = WP f S fun p => QO (.nx (p.2.set i (.own false p.1))) := OV_map _ _
/-- what follows a statement -/
def WO (g : SSem) (Q : Out → Prop) : Out → Prop
  | .nx S => WP g S Q
  | o => Q o
@[simp] theorem wo_nx (g : SSem) : WO g QO (.nx S) = WP g S QO := rfl
@[simp] theorem wo_bk (g : SSem) : WO g QO (.bk S) = QO (.bk S) := rfl
@[simp] theorem wo_ct (g : SSem) : WO g QO (.ct S) = QO (.ct S) := rfl
@[simp] theorem wo_rt (g : SSem) (r : SD) : WO g QO (.rt r S) = QO (.rt r S) := rfl
@[simp] theorem w_seq (f g : SSem) : WP (sSeq f g) S QO = WP f S (WO g QO) := by
  show OV ((f S).bind fun o => match o with
    | .nx S1 => g S1
    | o => some o) QO = OV (f S) (WO g QO)
  rw [OV_bind]
  refine congrArg (OV (f S)) (funext fun o => ?_)
  cases o <;> first | rfl | exact OV_some _
@[simp] theorem w_yes : WP sYes S QB = QB (true, S) := OV_some _
@[simp] theorem w_app (n k : Nat) (f g : AS) : WP (sApp n k f g) S QA = WP f S fun p => WP g p.2 fun q => (p.1.length = n ∧ q.1.length = k) ∧ QA (p.1 ++ q.1, q.2) := by
  show OV ((f S).bind fun p => (g p.2).bind fun q => if p.1.length = n ∧ q.1.length = k then some (p.1 ++ q.1, q.2) else none) QA = _
  simp only [OV_bind]
  refine congrArg (OV (f S)) (funext fun p => congrArg (OV _) (funext fun q => ?_))
  by_cases h : p.1.length = n ∧ q.1.length = k <;> simp [h]
@[simp] theorem w_callR (n : Nat) (m : Fn) (f : AS) : WP (sCallR n m f) S QV = WP f S fun p => OV (opSDs p.2 p.1) fun Dl => (p.1.length = n ∧ (ownIx p.2 p.1).Nodup) ∧ OV (m Dl) fun q => QV (q.1, wbGo p.1 q.2 0 p.2) := by
  show OV ((f S).bind fun p => (opSDs p.2 p.1).bind fun Dl => if p.1.length = n ∧ (ownIx p.2 p.1).Nodup then (m Dl).map fun q => (q.1, wbGo p.1 q.2 0 p.2) else none) QV = _
  simp only [OV_bind]
  refine congrArg (OV (f S)) (funext fun p => congrArg (OV _) (funext fun Dl => ?_))
  by_cases h : p.1.length = n ∧ (ownIx p.2 p.1).Nodup
  · rw [if_pos h, OV_map]; simp [h]
  · rw [if_neg h]; simp [h]
@[simp] theorem w_perm (pm : List Nat) (f : AS) : WP (sPerm pm f) S QA = WP f S fun p => QA (perm pm p.1, p.2) := OV_map _ _
@[simp] theorem w_call (n : Nat) (m : Fn) (f : AS) : WP (sCall n m f) S Q = WP (sCallR n m f) S fun p => OV (resD p.1) fun x => Q (.dat x, p.2) := by
  show OV ((sCallR n m f S).bind fun p => (resD p.1).map fun x => (.dat x, p.2)) Q = _
  simp only [OV_bind, OV_map]; rfl
@[simp] theorem w_callL (n : Nat) (m : Fn) (f : AS) : WP (sCallL n m f) S QL = WP (sCallR n m f) S fun p => OV (resL p.1) fun x => QL (x, p.2) := by
  show OV ((sCallR n m f S).bind fun p => (resL p.1).map fun x => (x, p.2)) QL = _
  simp only [OV_bind, OV_map]; rfl
@[simp] theorem w_callF (m : Fn) (f : LS) : WP (sCallF m f) S Q = WP f S fun p => OV (m [.own true p.1]) fun q => OV (onlyD q.1) fun x => Q (.dat x, p.2) := by
  show OV ((f S).bind fun p => (m [.own true p.1]).bind fun q => (onlyD q.1).map fun x => (.dat x, p.2)) Q = _
  simp only [OV_bind, OV_map]; rfl
@[simp] theorem onlyD_d (x : PyData) : onlyD (.d x) = some x := rfl
@[simp] theorem w_isi (T : Tg) (f : ES) : WP (sIsi T f) S Q = WP f S fun p => OV (p.1.get p.2) fun x => OV (isTy T x) fun b => Q (.dat (.bool b), p.2) := by
  show OV ((f S).bind fun p => (p.1.get p.2).bind fun x => (isTy T x).map fun b => (.dat (.bool b), p.2)) Q = _
  simp only [OV_bind, OV_map]; rfl
@[simp] theorem w_isi2 (T U : Tg) (f : ES) : WP (sIsi2 T U f) S Q = WP f S fun p => OV (p.1.get p.2) fun x => OV (isTy T x) fun b => OV (isTy U x) fun c => Q (.dat (.bool (b || c)), p.2) := by
  show OV ((f S).bind fun p => (p.1.get p.2).bind fun x => (isTy T x).bind fun b => (isTy U x).map fun c => (.dat (.bool (b || c)), p.2)) Q = _
  simp only [OV_bind, OV_map]; rfl
@[simp] theorem w_seqI (f : DS) : WP (sSeqI f) S QL = WP f S fun p => OV (dItems p.1) fun xs => QL (xs, p.2) := by
  show OV ((f S).bind fun p => (dItems p.1).map fun xs => (xs, p.2)) QL = _
  simp only [OV_bind, OV_map]; rfl
@[simp] theorem w_takeA (f : AS) {Q : List PyData × List SD → Prop} : WP (sTakeA f) S Q = WP f S fun p => OV (takeAll p.2 p.1) Q := OV_bind _ _
@[simp] theorem w_argI (g : List PyData → Option (List PyData)) (f : AS) : WP (sArgI g f) S QL = WP (sTakeA f) S fun p => OV (g p.1) fun xs => QL (xs, p.2) := by
  show OV ((sTakeA f S).bind fun p => (g p.1).map fun xs => (xs, p.2)) QL = _
  simp only [OV_bind, OV_map]; rfl
@[simp] theorem w_noPart : WP sNoPart S QP = QP (none, S) := OV_some _
@[simp] theorem w_part (f : ES) : WP (sPart f) S QP = WP f S fun p => OV (p.1.get p.2) fun x => OV (dIntO x) fun i => QP (some i, p.2) := by
  show OV ((f S).bind fun p => (p.1.get p.2).bind fun x => (dIntO x).map fun i => (some i, p.2)) QP = _
  simp only [OV_bind, OV_map]; rfl
@[simp] theorem w_slice (f : ES) (fl fh : OS) : WP (sSlice f fl fh) S Q = WP f S fun p => WP fl p.2 fun q => WP fh q.2 fun r => OV (p.1.get r.2) fun x => OV (dCut x q.1 r.1) fun z => Q (.dat z, r.2) := by
  show OV ((f S).bind fun p => (fl p.2).bind fun q => (fh q.2).bind fun r => (p.1.get r.2).bind fun x => (dCut x q.1 r.1).map fun z => (.dat z, r.2)) Q = _
  simp only [OV_bind, OV_map]; rfl
@[simp] theorem w_sliceL (f : ES) (fl fh : OS) : WP (sSliceL f fl fh) S QL = WP f S fun p => WP fl p.2 fun q => WP fh q.2 fun r => OV (p.1.get r.2) fun x => OV (dCutL x q.1 r.1) fun z => QL (z, r.2) := by
  show OV ((f S).bind fun p => (fl p.2).bind fun q => (fh q.2).bind fun r => (p.1.get r.2).bind fun x => (dCutL x q.1 r.1).map fun z => (z, r.2)) QL = _
  simp only [OV_bind, OV_map]; rfl
@[simp] theorem w_vD (f : DS) : WP (vD f) S QV = WP f S fun p => QV (.d p.1, p.2) := OV_map _ _
@[simp] theorem w_vL (f : LS) : WP (vL f) S QV = WP f S fun p => QV (.own false p.1, p.2) := OV_map _ _
@[simp] theorem w_vLCt (f : LS) : WP (vLC true f) S QV = WP (vD (sTake (sKeep f))) S QV := rfl
@[simp] theorem w_vLCf (f : LS) : WP (vLC false f) S QV = WP (vL f) S QV := rfl
@[simp] theorem w_setV (f : VS) (i : Nat) : WP (sSetV f i) S QO = WP f S fun p => QO (.nx (p.2.set i p.1)) := OV_map _ _
@[simp] theorem w_retVS (f : VS) : WP (sRetVS f) S QO = WP f S fun p => QO (.rt p.1 p.2) := OV_map _ _
@[simp] theorem w_par (i j : Nat) (f g : VS) : WP (sPar i j f g) S QO = WP f S fun p => WP (asideV p.1 g) p.2 fun q => QO (.nx ((q.2.set i p.1).set j q.1)) := by
  show OV ((f S).bind fun p => (asideV p.1 g p.2).map fun q => .nx ((q.2.set i p.1).set j q.1)) QO = _
  simp only [OV_bind, OV_map]; rfl
/-- a value read beside another one -/
def WAs (s : SD) (g : VS) (S : List SD) (Q : SD × List SD → Prop) : Prop := OV (asideV s g S) Q
@[simp] theorem w_asideD (x : PyData) (g : VS) : WP (asideV (.d x) g) S QV = WP g S QV := rfl
@[simp] theorem w_asideO (b : Bool) (xs : List PyData) (g : VS) : WP (asideV (.own b xs) g) S QV = WP g (borGo [] 0 S) fun p => QV (p.1, unbGo [] 0 S p.2) := OV_map _ _
@[simp] theorem w_index (fo fa : ES) : WP (sIndex fo fa) S Q = WP fo S fun p => OV (p.1.get p.2) fun l => isList l = true ∧ WP fa p.2 fun q => OV (p.1.get q.2) fun x => OV (q.1.get q.2) fun y => OV (dIndex x y) fun z => Q (.dat z, q.2) := by
  show OV ((fo S).bind fun p => (p.1.get p.2).bind fun l => if isList l = true then (fa p.2).bind fun q => (p.1.get q.2).bind fun x => (q.1.get q.2).bind fun y => (dIndex x y).map fun z => (.dat z, q.2) else none) Q = _
  simp only [OV_bind]
  refine congrArg (OV (fo S)) (funext fun p => congrArg (OV _) (funext fun l => ?_))
  by_cases h : isList l = true
  · rw [if_pos h]; simp only [OV_bind, OV_map, h, true_and]; rfl
  · rw [if_neg h]; simp [h]
@[simp] theorem w_rg1 (f : ES) : WP (sRg1 f) S QR = WP f S fun p => OV (p.1.get p.2) fun x => OV (dIntO x) fun n => QR ((0, n), p.2) := by
  show OV ((f S).bind fun p => (p.1.get p.2).bind fun x => (dIntO x).map fun n => ((0, n), p.2)) QR = _
  simp only [OV_bind, OV_map]; rfl
@[simp] theorem w_rg2 (f g : ES) : WP (sRg2 f g) S QR = WP f S fun p => WP g p.2 fun q => OV (p.1.get q.2) fun x => OV (q.1.get q.2) fun y => OV (dIntO x) fun n => OV (dIntO y) fun m => QR ((n, m), q.2) := by
  show OV ((f S).bind fun p => (g p.2).bind fun q => (p.1.get q.2).bind fun x => (q.1.get q.2).bind fun y => (dIntO x).bind fun n => (dIntO y).map fun m => ((n, m), q.2)) QR = _
  simp only [OV_bind, OV_map]; rfl
@[simp] theorem w_lstRg (f : RS) : WP (sLstRg f) S QL = WP f S fun p => rgB p.1.1 p.1.2 = true ∧ QL (rngD p.1.1 (p.1.2 - p.1.1).toNat, p.2) := by
  show OV ((f S).bind fun p => if rgB p.1.1 p.1.2 = true then some (rngD p.1.1 (p.1.2 - p.1.1).toNat, p.2) else none) QL = _
  simp only [OV_bind]
  refine congrArg (OV (f S)) (funext fun p => ?_)
  by_cases h : rgB p.1.1 p.1.2 = true <;> simp [h]
@[simp] theorem w_tupRg (f : RS) : WP (sTupRg f) S Q = WP f S fun p => rgB p.1.1 p.1.2 = true ∧ Q (.dat (.tuple (rngD p.1.1 (p.1.2 - p.1.1).toNat)), p.2) := by
  show OV ((f S).bind fun p => if rgB p.1.1 p.1.2 = true then some (.dat (.tuple (rngD p.1.1 (p.1.2 - p.1.1).toNat)), p.2) else none) Q = _
  simp only [OV_bind]
  refine congrArg (OV (f S)) (funext fun p => ?_)
  by_cases h : rgB p.1.1 p.1.2 = true <;> simp [h]
@[simp] theorem w_dict0 : WP sDict0 S Q = Q (.dat (.dict []), S) := OV_some _
@[simp] theorem w_par3 (i j l : Nat) (f : AS) : WP (sPar3 i j l f) S QO = WP (sTakeA f) S fun p => OV (set3 i j l p.2 p.1) QO := OV_bind _ _
@[simp] theorem set3_3 (i j l : Nat) (x y z : PyData) : set3 i j l S [x, y, z] = some (.nx (((S.set i (.d x)).set j (.d y)).set l (.d z))) := rfl
/-! a method -/
def WM (i : Nat) (g : List PyData → List PyData → Option (PyData × List PyData)) (p : List PyData × List SD) (Q : Op × List SD → Prop) : Option SD → Prop
  | some (.own b xs) => OV (g xs p.1) fun z => Q (.dat z.1, p.2.set i (.own b z.2))
  | _ => False
@[simp] theorem wm_o (i : Nat) (g : List PyData → List PyData → Option (PyData × List PyData)) (p : List PyData × List SD) (b : Bool) (xs : List PyData) : WM i g p Q (some (.own b xs)) = OV (g xs p.1) fun z => Q (.dat z.1, p.2.set i (.own b z.2)) := rfl
@[simp] theorem w_meth (i : Nat) (g : List PyData → List PyData → Option (PyData × List PyData)) (f : AS) : WP (sMeth i g f) S Q = (isOwn (S[i]?) = true ∧ WP (sTakeA f) S fun p => WM i g p Q (p.2[i]?)) := by
  unfold WP sMeth
  cases q : S[i]? with
  | none => simp [isOwn]
  | some s =>
    cases s with
    | own b xs =>
      simp only [isOwn, OV_bind, true_and]
      refine congrArg (OV _) (funext fun p => ?_)
      unfold WM
      cases z : p.2[i]? with
      | none => simp
      | some t => cases t <;> simp
    | _ => simp [isOwn]
/-! targets -/
@[simp] theorem wg_name (i : Nat) (x : PyData) : WG (gsName i) x S QG = QG (S.set i (.d x)) := OV_some _
@[simp] theorem wg_tup (n : Nat) (g : List PyData → List SD → Option (List SD)) (x : PyData) : WG (gsTup n g) x S QG = OV (dTup x) fun xs => xs.length = n ∧ WGs g xs S QG := by
  show OV ((dTup x).bind fun xs => if xs.length = n then g xs S else none) QG = _
  simp only [OV_bind]
  refine congrArg (OV _) (funext fun xs => ?_)
  by_cases h : xs.length = n
  · rw [if_pos h]; simp only [h, true_and]; rfl
  · rw [if_neg h]; simp [h]
@[simp] theorem wg_sub (i : Nat) (f : ES) (x : PyData) : WG (gsSub i f) x S QG = (isOwnS (S[i]?) = true ∧ WP f S fun p => OV (p.1.get p.2) fun y => OV (dIntO y) fun k => OV (setAt i x k p.2 (p.2[i]?)) QG) := by
  show OV (if isOwnS (S[i]?) = true then (f S).bind fun p => (p.1.get p.2).bind fun y => (dIntO y).bind fun k => setAt i x k p.2 (p.2[i]?) else none) QG = _
  by_cases h : isOwnS (S[i]?) = true
  · rw [if_pos h]; simp only [OV_bind, h, true_and]; rfl
  · rw [if_neg h]; simp [h]
@[simp] theorem wg_nil : WGs gsNil [] S QG = QG S := OV_some _
@[simp] theorem wg_cons (g : GS) (gs : List PyData → List SD → Option (List SD)) (x : PyData) (xs : List PyData) : WGs (gsCons g gs) (x :: xs) S QG = WG g x S fun S1 => WGs gs xs S1 QG := OV_bind _ _
end

/-! ### comprehensions -/
def WLc (vs : List Nat) (gs : GS) (fc : BS) (fd : DS) (xs : List PyData) (S : List SD) (Q : List PyData × List SD → Prop) : Prop := OV (lcGo vs gs fc fd xs S) Q
def WLS (vs : List Nat) (gs : GS) (fc : BS) (fd : DS) (x : PyData) (S : List SD) (Q : Option PyData × List SD → Prop) : Prop := OV (lcStep vs gs fc fd x S) Q
section
variable {vs : List Nat} {gs : GS} {fc : BS} {fd : DS} {xs xs' : List PyData} {x x' : PyData} {S S' : List SD} {Q : List PyData × List SD → Prop} {QS : Option PyData × List SD → Prop}
theorem WLc_congr (hx : xs = xs') (h : S = S') : WLc vs gs fc fd xs S Q = WLc vs gs fc fd xs' S' Q := by rw [h, hx]
theorem WLS_congr (hx : x = x') (h : S = S') : WLS vs gs fc fd x S QS = WLS vs gs fc fd x' S' QS := by rw [h, hx]
@[simp] theorem w_lc (fi : LS) : WP (sLC vs fi gs fc fd) S Q = WP fi S fun p => p.1.length < 100000 ∧ WLc vs gs fc fd p.1 p.2 Q := by
  show OV ((fi S).bind fun p => if p.1.length < 100000 then lcGo vs gs fc fd p.1 p.2 else none) Q = _
  simp only [OV_bind]
  refine congrArg (OV _) (funext fun p => ?_)
  by_cases h : p.1.length < 100000
  · rw [if_pos h]; simp only [h, true_and]; rfl
  · rw [if_neg h]; simp [h]
@[simp] theorem w_ls : WLS vs gs fc fd x S QS = WG gs x (borGo vs 0 S) fun S1 => WP fc S1 fun p => if p.1 = true then WP fd p.2 fun q => QS (some q.1, unbGo vs 0 S q.2) else QS (none, unbGo vs 0 S p.2) := by
  show OV ((gs x (borGo vs 0 S)).bind fun S1 => (fc S1).bind fun p => if p.1 = true then (fd p.2).map fun q => (some q.1, unbGo vs 0 S q.2) else some (none, unbGo vs 0 S p.2)) QS = _
  simp only [OV_bind, OV_ite, OV_map, OV_some]; rfl
@[simp] theorem w_lcNil : WLc vs gs fc fd [] S Q = Q ([], S) := OV_some _
@[simp] theorem w_lcCons : WLc vs gs fc fd (x :: xs) S Q = WLS vs gs fc fd x S fun p => WLc vs gs fc fd xs p.2 fun z => Q (p.1.toList ++ z.1, z.2) := by
  unfold WLc
  rw [lcGo_cons]
  simp only [OV_bind, OV_map]; rfl
/-- the slots stay: an item of F x each -/
theorem WLc.map (F : PyData → PyData) (h : ∀ x ∈ xs, WLS vs gs fc fd x S fun q => q = (some (F x), S)) (k : Q (xs.map F, S)) : WLc vs gs fc fd xs S Q :=
  ⟨_, lc_map F xs fun x hx => (h x hx).eq, k⟩
theorem WLc.fmap (F : PyData → Option PyData) (h : ∀ x ∈ xs, WLS vs gs fc fd x S fun q => q = (F x, S)) (k : Q (xs.filterMap F, S)) : WLc vs gs fc fd xs S Q :=
  ⟨_, lc_stable F xs fun x hx => (h x hx).eq, k⟩
/-- .. for a list that is itself a map -/
theorem WLc.mapOf {α : Type} {l : List α} (e : α → PyData) (F : α → PyData) (h : ∀ a ∈ l, WLS vs gs fc fd (e a) S fun q => q = (some (F a), S)) (k : Q (l.map F, S)) : WLc vs gs fc fd (l.map e) S Q := by
  refine ⟨_, ?_, k⟩
  clear k
  induction l with
  | nil => rfl
  | cons a l ih =>
    rw [List.map_cons, lcGo_cons, (h a (by simp)).eq]
    simp only [Option.bind_some]
    rw [ih fun b hb => h b (List.mem_cons_of_mem _ hb)]
    rfl
theorem WLc.fmapOf {α : Type} {l : List α} (e : α → PyData) (F : α → Option PyData) (h : ∀ a ∈ l, WLS vs gs fc fd (e a) S fun q => q = (F a, S)) (k : Q (l.filterMap F, S)) : WLc vs gs fc fd (l.map e) S Q := by
  refine ⟨_, ?_, k⟩
  clear k
  induction l with
  | nil => rfl
  | cons a l ih =>
    rw [List.map_cons, lcGo_cons, (h a (by simp)).eq]
    simp only [Option.bind_some]
    rw [ih fun b hb => h b (List.mem_cons_of_mem _ hb)]
    cases z : F a <;> simp [z]
/-- an invariant of what is gone through and what has come out -/
theorem WLc.inv (I : List PyData → List PyData → List SD → Prop) (h0 : I [] [] S) (h : ∀ pre x post ys S, xs = pre ++ x :: post → I pre ys S → WLS vs gs fc fd x S fun q => I (pre ++ [x]) (ys ++ q.1.toList) q.2) (k : ∀ ys S, I xs ys S → Q (ys, S)) : WLc vs gs fc fd xs S Q := by
  have key : ∀ (post pre ys : List PyData) (S : List SD), xs = pre ++ post → I pre ys S → ∃ zs S', lcGo vs gs fc fd post S = some (zs, S') ∧ I xs (ys ++ zs) S' := by
    intro post
    induction post with
    | nil => intro pre ys S e i; exact ⟨[], S, rfl, by rw [e]; simpa using i⟩
    | cons x post ih =>
      intro pre ys S e i
      obtain ⟨⟨o, S1⟩, h1, h2⟩ := h pre x post ys S e i
      obtain ⟨zs, S2, h3, h4⟩ := ih (pre ++ [x]) (ys ++ o.toList) S1 (by rw [e]; simp) h2
      refine ⟨o.toList ++ zs, S2, ?_, by rw [← List.append_assoc]; exact h4⟩
      rw [lcGo_cons, h1]
      simp only [Option.bind_some, h3, Option.map_some]
  obtain ⟨zs, S', h1, h2⟩ := key xs [] [] S rfl h0
  exact ⟨_, h1, k _ _ (by simpa using h2)⟩
end

/-! ### loops -/
def WFor (gs : GS) (fb : SSem) (xs : List PyData) (S : List SD) (Q : Out → Prop) : Prop := OV (forGo gs fb xs S) Q
/-- behind a turn: G what is next in the loop -/
def WT (G : List SD → Prop) (Q : Out → Prop) : Out → Prop
  | .nx S => G S
  | .ct S => G S
  | .bk S => Q (.nx S)
  | .rt r S => Q (.rt r S)
section
variable {gs : GS} {fb : SSem} {xs xs' : List PyData} {x x' : PyData} {S S' : List SD} {Q : Out → Prop} {G : List SD → Prop}
@[simp] theorem wt_nx : WT G Q (.nx S) = G S := rfl
@[simp] theorem wt_ct : WT G Q (.ct S) = G S := rfl
@[simp] theorem wt_bk : WT G Q (.bk S) = Q (.nx S) := rfl
@[simp] theorem wt_rt (r : SD) : WT G Q (.rt r S) = Q (.rt r S) := rfl
theorem WFor_congr (hx : xs = xs') (h : S = S') : WFor gs fb xs S Q = WFor gs fb xs' S' Q := by rw [h, hx]
@[simp] theorem w_for (fi : LS) : WP (sFor fi gs fb) S Q = WP fi S fun p => WFor gs fb p.1 p.2 Q := OV_bind _ _
@[simp] theorem w_forNil : WFor gs fb [] S Q = Q (.nx S) := OV_some _
@[simp] theorem w_forCons : WFor gs fb (x :: xs) S Q = WG gs x S fun S1 => WP fb S1 (WT (fun S2 => WFor gs fb xs S2 Q) Q) := by
  unfold WFor
  rw [forGo_cons, OV_bind]
  refine congrArg (OV _) (funext fun S1 => ?_)
  rw [OV_bind]
  refine congrArg (OV _) (funext fun o => ?_)
  cases o <;> first | rfl | exact OV_some _
theorem WFor.inv (I : List PyData → List SD → Prop) (h0 : I [] S) (h : ∀ pre x post S, xs = pre ++ x :: post → I pre S → WG gs x S fun S1 => WP fb S1 (WT (I (pre ++ [x])) Q)) (k : ∀ S, I xs S → Q (.nx S)) : WFor gs fb xs S Q := by
  have key : ∀ (post pre : List PyData) (S : List SD), xs = pre ++ post → I pre S → WFor gs fb post S Q := by
    intro post
    induction post with
    | nil => intro pre S e i; rw [w_forNil]; exact k S (by rw [e]; simpa using i)
    | cons x post ih =>
      intro pre S e i
      rw [w_forCons]
      refine OV.use (h pre x post S e i) fun S1 h1 => OV.use h1 fun o h2 => ?_
      cases o with
      | nx S2 => exact ih (pre ++ [x]) S2 (by rw [e]; simp) h2
      | ct S2 => exact ih (pre ++ [x]) S2 (by rw [e]; simp) h2
      | bk S2 => exact h2
      | rt r S2 => exact h2
  exact key xs [] S rfl h0
/-- .. over a list that is a map -/
theorem WFor.invOf {α : Type} {l : List α} (e : α → PyData) (I : List α → List SD → Prop) (h0 : I [] S) (h : ∀ pre a post S, l = pre ++ a :: post → I pre S → WG gs (e a) S fun S1 => WP fb S1 (WT (I (pre ++ [a])) Q)) (k : ∀ S, I l S → Q (.nx S)) : WFor gs fb (l.map e) S Q := by
  have key : ∀ (post pre : List α) (S : List SD), l = pre ++ post → I pre S → WFor gs fb (post.map e) S Q := by
    intro post
    induction post with
    | nil => intro pre S q i; rw [List.map_nil, w_forNil]; exact k S (by rw [q]; simpa using i)
    | cons x post ih =>
      intro pre S q i
      rw [List.map_cons, w_forCons]
      refine OV.use (h pre x post S q i) fun S1 h1 => OV.use h1 fun o h2 => ?_
      cases o with
      | nx S2 => exact ih (pre ++ [x]) S2 (by rw [q]; simp) h2
      | ct S2 => exact ih (pre ++ [x]) S2 (by rw [q]; simp) h2
      | bk S2 => exact h2
      | rt r S2 => exact h2
  exact key l [] S rfl h0
end
def WWh (ft : BS) (fb : SSem) (n : Nat) (S : List SD) (Q : Out → Prop) : Prop := OV (whileGo ft fb n S) Q
section
variable {ft : BS} {fb : SSem} {n : Nat} {S S' : List SD} {Q : Out → Prop}
theorem WWh_congr (h : S = S') : WWh ft fb n S Q = WWh ft fb n S' Q := by rw [h]
@[simp] theorem w_while : WP (sWhile n ft fb) S Q = WWh ft fb n S Q := rfl
/-- I k: at most k turns are left -/
theorem WWh.inv (I : Nat → List SD → Prop) (k0 : Nat) (h0 : I k0 S) (hk : k0 < n) (h : ∀ k S, I k S → WP ft S fun p => if p.1 = true then WP fb p.2 (WT (fun S2 => ∃ j, j < k ∧ I j S2) Q) else Q (.nx p.2)) : WWh ft fb n S Q := by
  have key : ∀ (n k : Nat) (S : List SD), k < n → I k S → WWh ft fb n S Q := by
    intro n
    induction n with
    | zero => intro k S hk; omega
    | succ n ih =>
      intro k S hk i
      unfold WWh
      show OV ((ft S).bind fun p => if p.1 = true then (fb p.2).bind fun o => match o with
        | .nx S2 => whileGo ft fb n S2
        | .ct S2 => whileGo ft fb n S2
        | .bk S2 => some (.nx S2)
        | .rt r S2 => some (.rt r S2) else some (.nx p.2)) Q
      rw [OV_bind]
      refine OV.use (h k S i) fun p hp => ?_
      rw [OV_ite]
      split
      · rename_i hc
        rw [if_pos hc] at hp
        rw [OV_bind]
        refine OV.use hp fun o h2 => ?_
        cases o with
        | nx S2 => obtain ⟨j, hj, i2⟩ := h2; exact ih j S2 (by omega) i2
        | ct S2 => obtain ⟨j, hj, i2⟩ := h2; exact ih j S2 (by omega) i2
        | bk S2 => rw [OV_some]; exact h2
        | rt r S2 => rw [OV_some]; exact h2
      · rename_i hc
        rw [if_neg hc] at hp
        rw [OV_some]; exact hp
  exact key n k0 S hk h0
end

/-! ### defs -/
theorem OV_defn (N : Nat) (f : SSem) (Dl : List SD) {Q : SD × List SD → Prop} : OV (defn N f Dl) Q = WP f (Dl ++ List.replicate (N - Dl.length) .un) fun o => OV (defOut Dl o) Q := OV_bind _ _
end DL0

set_option Elab.async false
set_option linter.all false
set_option maxRecDepth 100000
set_option maxHeartbeats 4000000
/-! WL: the mirrors stepped through from the front (for simp): what follows stays closed until it is reached. -/
namespace DL
open PySem L2

/-- keeps simp out of what follows: an argument on which another one's type leans stays as it is -/
inductive Kt {α : Type} (Q : α → Prop) : Type
  | mk
/-- r ends, with Q -/
def OV {α : Type} (r : Option α) (Q : α → Prop) (d : Kt Q := .mk) : Prop := DL0.OV r Q
section
variable {α β : Type} {r r' : Option α} {Q Q' : α → Prop}
@[simp] theorem OV_some (a : α) : OV (some a) Q = Q a := by apply DL0.OV_some
@[simp] theorem OV_none : OV (none : Option α) Q = False := by apply DL0.OV_none
@[simp] theorem OV_bind (f : β → Option α) (s : Option β) : OV (s.bind f) Q = OV s fun a => OV (f a) Q := by apply DL0.OV_bind
@[simp] theorem OV_map (f : β → α) (s : Option β) : OV (s.map f) Q = OV s fun a => Q (f a) := by apply DL0.OV_map
@[simp] theorem OV_ite (c : Prop) [Decidable c] (a b : Option α) : OV (if c then a else b) Q = if c then OV a Q else OV b Q := by apply DL0.OV_ite
theorem OV.use {P : α → Prop} (h : OV r P) (k : ∀ a, P a → Q a) : OV r Q := by obtain ⟨a, h1, h2⟩ := h; exact ⟨a, h1, k a h2⟩
theorem OV.eq {c : α} (h : OV r fun q => q = c) : r = some c := by obtain ⟨a, h1, h2⟩ := h; rw [h1, h2]
theorem OV.of {c : α} (h : r = some c) (q : Q c) : OV r Q := ⟨c, h, q⟩
end

/-- f, read at the slots S, ends, with Q -/
def WP {β : Type} (f : List SD → Option β) (S : List SD) (Q : β → Prop) (d : Kt Q := .mk) : Prop := DL0.WP f S Q
theorem WP.use {β : Type} {f : List SD → Option β} {S : List SD} {P Q : β → Prop} (h : WP f S P) (k : ∀ a, P a → Q a) : WP f S Q := OV.use h k
/-- a target -/
def WG (g : GS) (x : PyData) (S : List SD) (Q : List SD → Prop) (d : Kt Q := .mk) : Prop := DL0.WG g x S Q
def WGs (g : List PyData → List SD → Option (List SD)) (x : List PyData) (S : List SD) (Q : List SD → Prop) (d : Kt Q := .mk) : Prop := DL0.WGs g x S Q
section
variable {S : List SD} {Q : Op × List SD → Prop} {QB : Bool × List SD → Prop} {QA : List Op × List SD → Prop} {QL : List PyData × List SD → Prop} {QD : PyData × List SD → Prop} {QO : Out → Prop} {QV : SD × List SD → Prop} {QR : (Int × Int) × List SD → Prop} {QP : Option Int × List SD → Prop} {QG : List SD → Prop}
@[simp] theorem w_var (i : Nat) : WP (sVar i) S Q = (sdTold (S[i]?) = true ∧ Q (.slot i, S)) := by apply DL0.w_var
@[simp] theorem w_c (x : PyData) : WP (sC x) S Q = Q (.dat x, S) := by apply DL0.w_c
@[simp] theorem w_take (f : ES) : WP (sTake f) S QD = WP f S fun p => OV (takeO p.2 p.1) QD := by apply DL0.w_take
@[simp] theorem w_dat (f : DS) : WP (sDat f) S Q = WP f S fun p => Q (.dat p.1, p.2) := by apply DL0.w_dat
@[simp] theorem w_keep (f : LS) : WP (sKeep f) S Q = WP f S fun p => Q (.dat (.list p.1), p.2) := by apply DL0.w_keep
@[simp] theorem w_nil : WP sNil S QA = QA ([], S) := by apply DL0.w_nil
@[simp] theorem w_cons (f : ES) (g : AS) : WP (sCons f g) S QA = WP f S fun p => WP g p.2 fun q => QA (p.1 :: q.1, q.2) := by apply DL0.w_cons
@[simp] theorem w_bin (g : PyData → PyData → Option PyData) (f f' : ES) : WP (sBin g f f') S Q = WP f S fun p => WP f' p.2 fun q => OV (p.1.get q.2) fun x => OV (q.1.get q.2) fun y => OV (g x y) fun z => Q (.dat z, q.2) := by apply DL0.w_bin
@[simp] theorem w_binL (g : PyData → PyData → Option (List PyData)) (f f' : ES) : WP (sBinL g f f') S QL = WP f S fun p => WP f' p.2 fun q => OV (p.1.get q.2) fun x => OV (q.1.get q.2) fun y => OV (g x y) fun z => QL (z, q.2) := by apply DL0.w_binL
@[simp] theorem w_test (f : ES) : WP (sTest f) S QB = WP f S fun p => OV (p.1.get p.2) fun x => OV (dBool x) fun b => QB (b, p.2) := by apply DL0.w_test
@[simp] theorem w_and (f g : BS) : WP (sAnd f g) S QB = WP f S fun p => if p.1 = true then WP g p.2 QB else QB (false, p.2) := by apply DL0.w_and
@[simp] theorem w_or (f g : BS) : WP (sOr f g) S QB = WP f S fun p => if p.1 = true then QB (true, p.2) else WP g p.2 QB := by apply DL0.w_or
@[simp] theorem w_not (f : BS) : WP (sNot f) S QB = WP f S fun p => QB (!p.1, p.2) := by apply DL0.w_not
@[simp] theorem w_andV (f g : ES) : WP (sAndV f g) S Q = WP f S fun p => OV (p.1.get p.2) fun x => OV (dBool x) fun c => if c = true then WP g p.2 Q else Q (.dat (.bool false), p.2) := by apply DL0.w_andV
@[simp] theorem w_orV (f g : ES) : WP (sOrV f g) S Q = WP f S fun p => OV (p.1.get p.2) fun x => OV (dBool x) fun c => if c = true then Q (.dat (.bool true), p.2) else WP g p.2 Q := by apply DL0.w_orV
@[simp] theorem w_notV (f : ES) : WP (sNotV f) S Q = WP f S fun p => OV (p.1.get p.2) fun x => OV (dBool x) fun c => Q (.dat (.bool (!c)), p.2) := by apply DL0.w_notV
@[simp] theorem w_if {α : Type} (t : BS) (f g : List SD → Option α) {Q : α → Prop} : WP (sIf t f g) S Q = WP t S fun p => if p.1 = true then WP f p.2 Q else WP g p.2 Q := by apply DL0.w_if
@[simp] theorem w_chain (g g' : PyData → PyData → Option PyData) (f f' f'' : ES) : WP (sChain g g' f f' f'') S Q = WP f S fun p => WP f' p.2 fun q => OV (p.1.get q.2) fun x => OV (q.1.get q.2) fun y => OV (g x y) fun z => OV (dBool z) fun k =>
    if k = true then WP f'' q.2 fun s => OV (q.1.get s.2) fun y' => OV (s.1.get s.2) fun w => OV (g' y' w) fun z' => Q (.dat z', s.2) else Q (.dat (.bool false), q.2) := by apply DL0.w_chain
@[simp] theorem w_un (g : PyData → Option PyData) (f : ES) : WP (sUn g f) S Q = WP f S fun p => OV (p.1.get p.2) fun x => OV (g x) fun z => Q (.dat z, p.2) := by apply DL0.w_un
@[simp] theorem w_tup (f : AS) : WP (sTup f) S Q = WP f S fun p => OV (takeAll p.2 p.1) fun q => q.1.length ≤ 100000 ∧ Q (.dat (.tuple q.1), q.2) := by apply DL0.w_tup
@[simp] theorem w_lst (f : AS) : WP (sLst f) S QL = WP f S fun p => OV (takeAll p.2 p.1) fun q => q.1.length ≤ 100000 ∧ QL (q.1, q.2) := by apply DL0.w_lst
@[simp] theorem w_cb (g : List PyData → Option PyData) (f : AS) : WP (sCB g f) S Q = WP f S fun p => OV (getAll p.2 p.1) fun xs => OV (g xs) fun z => Q (.dat z, p.2) := by apply DL0.w_cb
@[simp] theorem w_cbl (g : List PyData → Option (List PyData)) (f : AS) : WP (sCBL g f) S QL = WP f S fun p => OV (getAll p.2 p.1) fun xs => OV (g xs) fun z => QL (z, p.2) := by apply DL0.w_cbl
@[simp] theorem w_next : WP sNext S QO = QO (.nx S) := by apply DL0.w_next
@[simp] theorem w_break : WP sBreak S QO = QO (.bk S) := by apply DL0.w_break
@[simp] theorem w_cont : WP sCont S QO = QO (.ct S) := by apply DL0.w_cont
@[simp] theorem w_never : WP sNever S QO = False := by apply DL0.w_never
@[simp] theorem w_drop (f : ES) : WP (sDrop f) S QO = WP f S fun p => QO (.nx p.2) := by apply DL0.w_drop
@[simp] theorem w_ret (f : DS) : WP (sRet f) S QO = WP f S fun p => QO (.rt (.d p.1) p.2) := by apply DL0.w_ret
@[simp] theorem w_retL (f : LS) : WP (sRetL f) S QO = WP f S fun p => QO (.rt (.own false p.1) p.2) := by apply DL0.w_retL
@[simp] theorem w_retV (i : Nat) : WP (sRetV i) S QO = OV (retS S i (S[i]?)) QO := by apply DL0.w_retV
@[simp] theorem w_retN : WP sRetN S QO = QO (.rt (.d .none) S) := by apply DL0.w_retN
@[simp] theorem w_asg (f : DS) (g : GS) : WP (sAsg f g) S QO = WP f S fun p => WG g p.1 p.2 fun S1 => QO (.nx S1) := by apply DL0.w_asg
@[simp] theorem w_asgL (f : LS) (i : Nat) : WP (sAsgL f i) S QO = WP f S fun p => QO (.nx (p.2.set i (.own false p.1))) := by apply DL0.w_asgL
/-- what follows a statement -/
def WO (g : SSem) (Q : Out → Prop) : Out → Prop := DL0.WO g Q
@[simp] theorem wo_nx (g : SSem) : WO g QO (.nx S) = WP g S QO := by apply DL0.wo_nx
@[simp] theorem wo_bk (g : SSem) : WO g QO (.bk S) = QO (.bk S) := by apply DL0.wo_bk
@[simp] theorem wo_ct (g : SSem) : WO g QO (.ct S) = QO (.ct S) := by apply DL0.wo_ct
@[simp] theorem wo_rt (g : SSem) (r : SD) : WO g QO (.rt r S) = QO (.rt r S) := by apply DL0.wo_rt
@[simp] theorem w_seq (f g : SSem) : WP (sSeq f g) S QO = WP f S (WO g QO) := by apply DL0.w_seq
@[simp] theorem w_yes : WP sYes S QB = QB (true, S) := by apply DL0.w_yes
@[simp] theorem w_app (n k : Nat) (f g : AS) : WP (sApp n k f g) S QA = WP f S fun p => WP g p.2 fun q => (p.1.length = n ∧ q.1.length = k) ∧ QA (p.1 ++ q.1, q.2) := by apply DL0.w_app
@[simp] theorem w_callR (n : Nat) (m : Fn) (f : AS) : WP (sCallR n m f) S QV = WP f S fun p => OV (opSDs p.2 p.1) fun Dl => (p.1.length = n ∧ (ownIx p.2 p.1).Nodup) ∧ OV (m Dl) fun q => QV (q.1, wbGo p.1 q.2 0 p.2) := by apply DL0.w_callR
@[simp] theorem w_perm (pm : List Nat) (f : AS) : WP (sPerm pm f) S QA = WP f S fun p => QA (perm pm p.1, p.2) := by apply DL0.w_perm
@[simp] theorem w_call (n : Nat) (m : Fn) (f : AS) : WP (sCall n m f) S Q = WP (sCallR n m f) S fun p => OV (resD p.1) fun x => Q (.dat x, p.2) := by apply DL0.w_call
@[simp] theorem w_callL (n : Nat) (m : Fn) (f : AS) : WP (sCallL n m f) S QL = WP (sCallR n m f) S fun p => OV (resL p.1) fun x => QL (x, p.2) := by apply DL0.w_callL
@[simp] theorem w_callF (m : Fn) (f : LS) : WP (sCallF m f) S Q = WP f S fun p => OV (m [.own true p.1]) fun q => OV (onlyD q.1) fun x => Q (.dat x, p.2) := by apply DL0.w_callF
@[simp] theorem onlyD_d (x : PyData) : onlyD (.d x) = some x := rfl
@[simp] theorem w_isi (T : Tg) (f : ES) : WP (sIsi T f) S Q = WP f S fun p => OV (p.1.get p.2) fun x => OV (isTy T x) fun b => Q (.dat (.bool b), p.2) := by apply DL0.w_isi
@[simp] theorem w_isi2 (T U : Tg) (f : ES) : WP (sIsi2 T U f) S Q = WP f S fun p => OV (p.1.get p.2) fun x => OV (isTy T x) fun b => OV (isTy U x) fun c => Q (.dat (.bool (b || c)), p.2) := by apply DL0.w_isi2
@[simp] theorem w_seqI (f : DS) : WP (sSeqI f) S QL = WP f S fun p => OV (dItems p.1) fun xs => QL (xs, p.2) := by apply DL0.w_seqI
@[simp] theorem w_takeA (f : AS) {Q : List PyData × List SD → Prop} : WP (sTakeA f) S Q = WP f S fun p => OV (takeAll p.2 p.1) Q := by apply DL0.w_takeA
@[simp] theorem w_argI (g : List PyData → Option (List PyData)) (f : AS) : WP (sArgI g f) S QL = WP (sTakeA f) S fun p => OV (g p.1) fun xs => QL (xs, p.2) := by apply DL0.w_argI
@[simp] theorem w_noPart : WP sNoPart S QP = QP (none, S) := by apply DL0.w_noPart
@[simp] theorem w_part (f : ES) : WP (sPart f) S QP = WP f S fun p => OV (p.1.get p.2) fun x => OV (dIntO x) fun i => QP (some i, p.2) := by apply DL0.w_part
@[simp] theorem w_slice (f : ES) (fl fh : OS) : WP (sSlice f fl fh) S Q = WP f S fun p => WP fl p.2 fun q => WP fh q.2 fun r => OV (p.1.get r.2) fun x => OV (dCut x q.1 r.1) fun z => Q (.dat z, r.2) := by apply DL0.w_slice
@[simp] theorem w_sliceL (f : ES) (fl fh : OS) : WP (sSliceL f fl fh) S QL = WP f S fun p => WP fl p.2 fun q => WP fh q.2 fun r => OV (p.1.get r.2) fun x => OV (dCutL x q.1 r.1) fun z => QL (z, r.2) := by apply DL0.w_sliceL
@[simp] theorem w_vD (f : DS) : WP (vD f) S QV = WP f S fun p => QV (.d p.1, p.2) := by apply DL0.w_vD
@[simp] theorem w_vL (f : LS) : WP (vL f) S QV = WP f S fun p => QV (.own false p.1, p.2) := by apply DL0.w_vL
@[simp] theorem w_vLCt (f : LS) : WP (vLC true f) S QV = WP (vD (sTake (sKeep f))) S QV := by apply DL0.w_vLCt
@[simp] theorem w_vLCf (f : LS) : WP (vLC false f) S QV = WP (vL f) S QV := by apply DL0.w_vLCf
@[simp] theorem w_setV (f : VS) (i : Nat) : WP (sSetV f i) S QO = WP f S fun p => QO (.nx (p.2.set i p.1)) := by apply DL0.w_setV
@[simp] theorem w_retVS (f : VS) : WP (sRetVS f) S QO = WP f S fun p => QO (.rt p.1 p.2) := by apply DL0.w_retVS
@[simp] theorem w_par (i j : Nat) (f g : VS) : WP (sPar i j f g) S QO = WP f S fun p => WP (asideV p.1 g) p.2 fun q => QO (.nx ((q.2.set i p.1).set j q.1)) := by apply DL0.w_par
/-- a value read beside another one -/
def WAs (s : SD) (g : VS) (S : List SD) (Q : SD × List SD → Prop) : Prop := OV (asideV s g S) Q
@[simp] theorem w_asideD (x : PyData) (g : VS) : WP (asideV (.d x) g) S QV = WP g S QV := by apply DL0.w_asideD
@[simp] theorem w_asideO (b : Bool) (xs : List PyData) (g : VS) : WP (asideV (.own b xs) g) S QV = WP g (borGo [] 0 S) fun p => QV (p.1, unbGo [] 0 S p.2) := by apply DL0.w_asideO
@[simp] theorem w_index (fo fa : ES) : WP (sIndex fo fa) S Q = WP fo S fun p => OV (p.1.get p.2) fun l => isList l = true ∧ WP fa p.2 fun q => OV (p.1.get q.2) fun x => OV (q.1.get q.2) fun y => OV (dIndex x y) fun z => Q (.dat z, q.2) := by apply DL0.w_index
@[simp] theorem w_rg1 (f : ES) : WP (sRg1 f) S QR = WP f S fun p => OV (p.1.get p.2) fun x => OV (dIntO x) fun n => QR ((0, n), p.2) := by apply DL0.w_rg1
@[simp] theorem w_rg2 (f g : ES) : WP (sRg2 f g) S QR = WP f S fun p => WP g p.2 fun q => OV (p.1.get q.2) fun x => OV (q.1.get q.2) fun y => OV (dIntO x) fun n => OV (dIntO y) fun m => QR ((n, m), q.2) := by apply DL0.w_rg2
@[simp] theorem w_lstRg (f : RS) : WP (sLstRg f) S QL = WP f S fun p => rgB p.1.1 p.1.2 = true ∧ QL (rngD p.1.1 (p.1.2 - p.1.1).toNat, p.2) := by apply DL0.w_lstRg
@[simp] theorem w_tupRg (f : RS) : WP (sTupRg f) S Q = WP f S fun p => rgB p.1.1 p.1.2 = true ∧ Q (.dat (.tuple (rngD p.1.1 (p.1.2 - p.1.1).toNat)), p.2) := by apply DL0.w_tupRg
@[simp] theorem w_dict0 : WP sDict0 S Q = Q (.dat (.dict []), S) := by apply DL0.w_dict0
@[simp] theorem w_par3 (i j l : Nat) (f : AS) : WP (sPar3 i j l f) S QO = WP (sTakeA f) S fun p => OV (set3 i j l p.2 p.1) QO := by apply DL0.w_par3
@[simp] theorem set3_3 (i j l : Nat) (x y z : PyData) : set3 i j l S [x, y, z] = some (.nx (((S.set i (.d x)).set j (.d y)).set l (.d z))) := rfl
/-! a method -/
def WM (i : Nat) (g : List PyData → List PyData → Option (PyData × List PyData)) (p : List PyData × List SD) (Q : Op × List SD → Prop) : Option SD → Prop := DL0.WM i g p Q
@[simp] theorem wm_o (i : Nat) (g : List PyData → List PyData → Option (PyData × List PyData)) (p : List PyData × List SD) (b : Bool) (xs : List PyData) : WM i g p Q (some (.own b xs)) = OV (g xs p.1) fun z => Q (.dat z.1, p.2.set i (.own b z.2)) := by apply DL0.wm_o
@[simp] theorem w_meth (i : Nat) (g : List PyData → List PyData → Option (PyData × List PyData)) (f : AS) : WP (sMeth i g f) S Q = (isOwn (S[i]?) = true ∧ WP (sTakeA f) S fun p => WM i g p Q (p.2[i]?)) := by apply DL0.w_meth
/-! targets -/
@[simp] theorem wg_name (i : Nat) (x : PyData) : WG (gsName i) x S QG = QG (S.set i (.d x)) := by apply DL0.wg_name
@[simp] theorem wg_tup (n : Nat) (g : List PyData → List SD → Option (List SD)) (x : PyData) : WG (gsTup n g) x S QG = OV (dTup x) fun xs => xs.length = n ∧ WGs g xs S QG := by apply DL0.wg_tup
@[simp] theorem wg_sub (i : Nat) (f : ES) (x : PyData) : WG (gsSub i f) x S QG = (isOwnS (S[i]?) = true ∧ WP f S fun p => OV (p.1.get p.2) fun y => OV (dIntO y) fun k => OV (setAt i x k p.2 (p.2[i]?)) QG) := by apply DL0.wg_sub
@[simp] theorem wg_nil : WGs gsNil [] S QG = QG S := by apply DL0.wg_nil
@[simp] theorem wg_cons (g : GS) (gs : List PyData → List SD → Option (List SD)) (x : PyData) (xs : List PyData) : WGs (gsCons g gs) (x :: xs) S QG = WG g x S fun S1 => WGs gs xs S1 QG := by apply DL0.wg_cons
end

/-! ### comprehensions -/
def WLc (vs : List Nat) (gs : GS) (fc : BS) (fd : DS) (xs : List PyData) (S : List SD) (Q : List PyData × List SD → Prop) (d : Kt Q := .mk) : Prop := DL0.WLc vs gs fc fd xs S Q
def WLS (vs : List Nat) (gs : GS) (fc : BS) (fd : DS) (x : PyData) (S : List SD) (Q : Option PyData × List SD → Prop) (d : Kt Q := .mk) : Prop := DL0.WLS vs gs fc fd x S Q
section
variable {vs : List Nat} {gs : GS} {fc : BS} {fd : DS} {xs xs' : List PyData} {x x' : PyData} {S S' : List SD} {Q : List PyData × List SD → Prop} {QS : Option PyData × List SD → Prop}
@[simp] theorem w_lc (fi : LS) : WP (sLC vs fi gs fc fd) S Q = WP fi S fun p => p.1.length < 100000 ∧ WLc vs gs fc fd p.1 p.2 Q := by apply DL0.w_lc
@[simp] theorem w_ls : WLS vs gs fc fd x S QS = WG gs x (borGo vs 0 S) fun S1 => WP fc S1 fun p => if p.1 = true then WP fd p.2 fun q => QS (some q.1, unbGo vs 0 S q.2) else QS (none, unbGo vs 0 S p.2) := by apply DL0.w_ls
@[simp] theorem w_lcNil : WLc vs gs fc fd [] S Q = Q ([], S) := by apply DL0.w_lcNil
@[simp] theorem w_lcCons : WLc vs gs fc fd (x :: xs) S Q = WLS vs gs fc fd x S fun p => WLc vs gs fc fd xs p.2 fun z => Q (p.1.toList ++ z.1, z.2) := by apply DL0.w_lcCons
/-- the slots stay: an item of F x each -/
theorem WLc.map (F : PyData → PyData) (h : ∀ x ∈ xs, WLS vs gs fc fd x S fun q => q = (some (F x), S)) (k : Q (xs.map F, S)) : WLc vs gs fc fd xs S Q :=
  ⟨_, lc_map F xs fun x hx => (h x hx).eq, k⟩
theorem WLc.fmap (F : PyData → Option PyData) (h : ∀ x ∈ xs, WLS vs gs fc fd x S fun q => q = (F x, S)) (k : Q (xs.filterMap F, S)) : WLc vs gs fc fd xs S Q :=
  ⟨_, lc_stable F xs fun x hx => (h x hx).eq, k⟩
/-- .. for a list that is itself a map -/
theorem WLc.mapOf {α : Type} {l : List α} (e : α → PyData) (F : α → PyData) (h : ∀ a ∈ l, WLS vs gs fc fd (e a) S fun q => q = (some (F a), S)) (k : Q (l.map F, S)) : WLc vs gs fc fd (l.map e) S Q := by
  refine ⟨_, ?_, k⟩
  clear k
  induction l with
  | nil => rfl
  | cons a l ih =>
    rw [List.map_cons, lcGo_cons, (h a (by simp)).eq]
    simp only [Option.bind_some]
    rw [ih fun b hb => h b (List.mem_cons_of_mem _ hb)]
    rfl
theorem WLc.fmapOf {α : Type} {l : List α} (e : α → PyData) (F : α → Option PyData) (h : ∀ a ∈ l, WLS vs gs fc fd (e a) S fun q => q = (F a, S)) (k : Q (l.filterMap F, S)) : WLc vs gs fc fd (l.map e) S Q := by
  refine ⟨_, ?_, k⟩
  clear k
  induction l with
  | nil => rfl
  | cons a l ih =>
    rw [List.map_cons, lcGo_cons, (h a (by simp)).eq]
    simp only [Option.bind_some]
    rw [ih fun b hb => h b (List.mem_cons_of_mem _ hb)]
    cases z : F a <;> simp [z]
/-- an invariant of what is gone through and what has come out -/
theorem WLc.inv (I : List PyData → List PyData → List SD → Prop) (h0 : I [] [] S) (h : ∀ pre x post ys S, xs = pre ++ x :: post → I pre ys S → WLS vs gs fc fd x S fun q => I (pre ++ [x]) (ys ++ q.1.toList) q.2) (k : ∀ ys S, I xs ys S → Q (ys, S)) : WLc vs gs fc fd xs S Q := by
  have key : ∀ (post pre ys : List PyData) (S : List SD), xs = pre ++ post → I pre ys S → ∃ zs S', lcGo vs gs fc fd post S = some (zs, S') ∧ I xs (ys ++ zs) S' := by
    intro post
    induction post with
    | nil => intro pre ys S e i; exact ⟨[], S, rfl, by rw [e]; simpa using i⟩
    | cons x post ih =>
      intro pre ys S e i
      obtain ⟨⟨o, S1⟩, h1, h2⟩ := h pre x post ys S e i
      obtain ⟨zs, S2, h3, h4⟩ := ih (pre ++ [x]) (ys ++ o.toList) S1 (by rw [e]; simp) h2
      refine ⟨o.toList ++ zs, S2, ?_, by rw [← List.append_assoc]; exact h4⟩
      rw [lcGo_cons, h1]
      simp only [Option.bind_some, h3, Option.map_some]
  obtain ⟨zs, S', h1, h2⟩ := key xs [] [] S rfl h0
  exact ⟨_, h1, k _ _ (by simpa using h2)⟩
end

/-! ### loops -/
def WFor (gs : GS) (fb : SSem) (xs : List PyData) (S : List SD) (Q : Out → Prop) (d : Kt Q := .mk) : Prop := DL0.WFor gs fb xs S Q
/-- behind a turn: G what is next in the loop -/
def WT (G : List SD → Prop) (Q : Out → Prop) : Out → Prop := DL0.WT G Q
section
variable {gs : GS} {fb : SSem} {xs xs' : List PyData} {x x' : PyData} {S S' : List SD} {Q : Out → Prop} {G : List SD → Prop}
@[simp] theorem wt_nx : WT G Q (.nx S) = G S := by apply DL0.wt_nx
@[simp] theorem wt_ct : WT G Q (.ct S) = G S := by apply DL0.wt_ct
@[simp] theorem wt_bk : WT G Q (.bk S) = Q (.nx S) := by apply DL0.wt_bk
@[simp] theorem wt_rt (r : SD) : WT G Q (.rt r S) = Q (.rt r S) := by apply DL0.wt_rt
@[simp] theorem w_for (fi : LS) : WP (sFor fi gs fb) S Q = WP fi S fun p => WFor gs fb p.1 p.2 Q := by apply DL0.w_for
@[simp] theorem w_forNil : WFor gs fb [] S Q = Q (.nx S) := by apply DL0.w_forNil
@[simp] theorem w_forCons : WFor gs fb (x :: xs) S Q = WG gs x S fun S1 => WP fb S1 (WT (fun S2 => WFor gs fb xs S2 Q) Q) := by apply DL0.w_forCons
theorem WFor.inv (I : List PyData → List SD → Prop) (h0 : I [] S) (h : ∀ pre x post S, xs = pre ++ x :: post → I pre S → WG gs x S fun S1 => WP fb S1 (WT (I (pre ++ [x])) Q)) (k : ∀ S, I xs S → Q (.nx S)) : WFor gs fb xs S Q := by
  have key : ∀ (post pre : List PyData) (S : List SD), xs = pre ++ post → I pre S → WFor gs fb post S Q := by
    intro post
    induction post with
    | nil => intro pre S e i; rw [w_forNil]; exact k S (by rw [e]; simpa using i)
    | cons x post ih =>
      intro pre S e i
      rw [w_forCons]
      refine OV.use (h pre x post S e i) fun S1 h1 => OV.use h1 fun o h2 => ?_
      cases o with
      | nx S2 => exact ih (pre ++ [x]) S2 (by rw [e]; simp) h2
      | ct S2 => exact ih (pre ++ [x]) S2 (by rw [e]; simp) h2
      | bk S2 => exact h2
      | rt r S2 => exact h2
  exact key xs [] S rfl h0
/-- .. over a list that is a map -/
theorem WFor.invOf {α : Type} {l : List α} (e : α → PyData) (I : List α → List SD → Prop) (h0 : I [] S) (h : ∀ pre a post S, l = pre ++ a :: post → I pre S → WG gs (e a) S fun S1 => WP fb S1 (WT (I (pre ++ [a])) Q)) (k : ∀ S, I l S → Q (.nx S)) : WFor gs fb (l.map e) S Q := by
  have key : ∀ (post pre : List α) (S : List SD), l = pre ++ post → I pre S → WFor gs fb (post.map e) S Q := by
    intro post
    induction post with
    | nil => intro pre S q i; rw [List.map_nil, w_forNil]; exact k S (by rw [q]; simpa using i)
    | cons x post ih =>
      intro pre S q i
      rw [List.map_cons, w_forCons]
      refine OV.use (h pre x post S q i) fun S1 h1 => OV.use h1 fun o h2 => ?_
      cases o with
      | nx S2 => exact ih (pre ++ [x]) S2 (by rw [q]; simp) h2
      | ct S2 => exact ih (pre ++ [x]) S2 (by rw [q]; simp) h2
      | bk S2 => exact h2
      | rt r S2 => exact h2
  exact key l [] S rfl h0
end
def WWh (ft : BS) (fb : SSem) (n : Nat) (S : List SD) (Q : Out → Prop) (d : Kt Q := .mk) : Prop := DL0.WWh ft fb n S Q
section
variable {ft : BS} {fb : SSem} {n : Nat} {S S' : List SD} {Q : Out → Prop}
@[simp] theorem w_while : WP (sWhile n ft fb) S Q = WWh ft fb n S Q := by apply DL0.w_while
/-- I k: at most k turns are left -/
theorem WWh.inv (I : Nat → List SD → Prop) (k0 : Nat) (h0 : I k0 S) (hk : k0 < n) (h : ∀ k S, I k S → WP ft S fun p => if p.1 = true then WP fb p.2 (WT (fun S2 => ∃ j, j < k ∧ I j S2) Q) else Q (.nx p.2)) : WWh ft fb n S Q := by
  have key : ∀ (n k : Nat) (S : List SD), k < n → I k S → WWh ft fb n S Q := by
    intro n
    induction n with
    | zero => intro k S hk; omega
    | succ n ih =>
      intro k S hk i
      unfold WWh
      show OV ((ft S).bind fun p => if p.1 = true then (fb p.2).bind fun o => match o with
        | .nx S2 => whileGo ft fb n S2
        | .ct S2 => whileGo ft fb n S2
        | .bk S2 => some (.nx S2)
        | .rt r S2 => some (.rt r S2) else some (.nx p.2)) Q
      rw [OV_bind]
      refine OV.use (h k S i) fun p hp => ?_
      rw [OV_ite]
      split
      · rename_i hc
        rw [if_pos hc] at hp
        rw [OV_bind]
        refine OV.use hp fun o h2 => ?_
        cases o with
        | nx S2 => obtain ⟨j, hj, i2⟩ := h2; exact ih j S2 (by omega) i2
        | ct S2 => obtain ⟨j, hj, i2⟩ := h2; exact ih j S2 (by omega) i2
        | bk S2 => rw [OV_some]; exact h2
        | rt r S2 => rw [OV_some]; exact h2
      · rename_i hc
        rw [if_neg hc] at hp
        rw [OV_some]; exact hp
  exact key n k0 S hk h0
end

/-! ### invariants that simp leaves alone -/
abbrev At (I : List SD → Prop) (S : List SD) (d : Kt I := .mk) : Prop := I S
theorem WFor.invA {gs : GS} {fb : SSem} {xs : List PyData} {S : List SD} {Q : Out → Prop} (I : List PyData → List SD → Prop) (h0 : I [] S) (h : ∀ pre x post S, xs = pre ++ x :: post → I pre S → WG gs x S fun S1 => WP fb S1 (WT (fun S => At (I (pre ++ [x])) S) Q)) (k : ∀ S, I xs S → Q (.nx S)) : WFor gs fb xs S Q := WFor.inv I h0 h k
theorem WFor.invOfA {gs : GS} {fb : SSem} {S : List SD} {Q : Out → Prop} {α : Type} {l : List α} (e : α → PyData) (I : List α → List SD → Prop) (h0 : I [] S) (h : ∀ pre a post S, l = pre ++ a :: post → I pre S → WG gs (e a) S fun S1 => WP fb S1 (WT (fun S => At (I (pre ++ [a])) S) Q)) (k : ∀ S, I l S → Q (.nx S)) : WFor gs fb (l.map e) S Q := WFor.invOf e I h0 h k
theorem WLc.invA {vs : List Nat} {gs : GS} {fc : BS} {fd : DS} {xs : List PyData} {S : List SD} {Q : List PyData × List SD → Prop} (I : List PyData → List PyData → List SD → Prop) (h0 : I [] [] S) (h : ∀ pre x post ys S, xs = pre ++ x :: post → I pre ys S → WLS vs gs fc fd x S fun q => At (I (pre ++ [x]) (ys ++ q.1.toList)) q.2) (k : ∀ ys S, I xs ys S → Q (ys, S)) : WLc vs gs fc fd xs S Q := WLc.inv I h0 h k
theorem WWh.invA {ft : BS} {fb : SSem} {n : Nat} {S : List SD} {Q : Out → Prop} (I : Nat → List SD → Prop) (k0 : Nat) (h0 : I k0 S) (hk : k0 < n) (h : ∀ k S, I k S → WP ft S fun p => if p.1 = true then WP fb p.2 (WT (fun S => At (fun S2 => ∃ j, j < k ∧ I j S2) S) Q) else Q (.nx p.2)) : WWh ft fb n S Q := WWh.inv I k0 h0 hk h

/-! ### defs -/
theorem OV_defn (N : Nat) (f : SSem) (Dl : List SD) {Q : SD × List SD → Prop} : OV (defn N f Dl) Q = WP f (Dl ++ List.replicate (N - Dl.length) .un) fun o => OV (defOut Dl o) Q := OV_bind _ _
end DL

set_option Elab.async false
set_option linter.all false
set_option maxRecDepth 100000
set_option maxHeartbeats 4000000
/-! PL: plain values told as data, typed: ints, tuples, lists of them; what the data's functions do there. -/
namespace DL
open PySem L2

section
variable {α β : Type} [DecidableEq α] [DecidableEq β] {n m : Nat} {e : α → PyData} {f : β → PyData}
/-- e tells values as data, faithfully; n: how deep -/
structure IsEnc (n : Nat) (e : α → PyData) : Prop where
  fit : ∀ a, fitN n (e a) = true
  eqv : ∀ a b, PyData.eqv (e a) (e b) = decide (a = b)
theorem IsEnc.mono (h : IsEnc n e) (k : n ≤ m) : IsEnc m e := ⟨fun a => fit_mono (h.fit a) k, h.eqv⟩
theorem eqvAll_enc (h : IsEnc n e) : ∀ xs ys : List α, PyData.eqvAll (xs.map e) (ys.map e) = decide (xs = ys)
  | [], [] => by simp [PyData.eqvAll]
  | [], _ :: _ => by simp [PyData.eqvAll]
  | _ :: _, [] => by simp [PyData.eqvAll]
  | x :: xs, y :: ys => by
    simp only [List.map_cons, PyData.eqvAll, h.eqv, eqvAll_enc h xs ys]
    rw [Bool.eq_iff_iff]
    simp
theorem fit_all (h : IsEnc n e) (xs : List α) : (xs.map e).all (fitN n) = true := by
  rw [List.all_eq_true]
  intro x hx
  obtain ⟨i, _, rfl⟩ := List.mem_map.mp hx
  exact h.fit i
theorem enc_int (n : Nat) : IsEnc n PyData.int := ⟨fit_int n, fun a b => by simp only [PyData.eqv]; rw [Bool.eq_iff_iff]; simp⟩
theorem IsEnc.tup (h : IsEnc n e) : IsEnc (n + 1) fun xs : List α => PyData.tuple (xs.map e) := ⟨fun xs => by rw [fit_tuple]; exact fit_all h xs, fun xs ys => by simp only [PyData.eqv, eqvAll_enc h]⟩
theorem IsEnc.lst (h : IsEnc n e) : IsEnc (n + 1) fun xs : List α => PyData.list (xs.map e) := ⟨fun xs => by rw [fit_list]; exact fit_all h xs, fun xs ys => by simp only [PyData.eqv, eqvAll_enc h]⟩
theorem IsEnc.pair (h : IsEnc n e) (g : IsEnc n f) : IsEnc (n + 1) fun p : α × β => PyData.tuple [e p.1, f p.2] := ⟨fun p => by rw [fit_tuple]; simp [h.fit, g.fit], fun p q => by
  simp only [PyData.eqv, PyData.eqvAll, h.eqv, g.eqv, Bool.and_true]
  rw [Bool.eq_iff_iff]
  obtain ⟨a, b⟩ := p
  obtain ⟨c, d⟩ := q
  simp⟩
theorem IsEnc.inj (h : IsEnc n e) {a b : α} (q : e a = e b) : a = b := by
  have := h.eqv a b
  rw [← q] at this
  have r := fit_self (h.fit a)
  rw [r] at this
  simpa using this.symm
theorem strEq_enc (h : IsEnc n e) (a b : α) : strEq (e a) (e b) = none ∨ strEq (e a) (e b) = some (decide (a = b)) := by
  unfold strEq
  split
  · rename_i x y h1 h2
    refine .inr ?_
    congr 1
    have := h.eqv a b
    rw [h1, h2] at this
    rw [← this]
    simp only [PyData.eqv]
    rw [Bool.eq_iff_iff]
    simp
  · exact .inl rfl
theorem dEq_enc (h : IsEnc n e) (hn : n ≤ 60) (a b : α) : dEq (e a) (e b) = some (.bool (decide (a = b))) := by
  unfold dEq
  rcases strEq_enc h a b with q | q
  · rw [q]
    show (if _ then _ else _) = _
    rw [if_pos ⟨(h.mono hn).fit a, (h.mono hn).fit b⟩, h.eqv]
  · rw [q]
theorem dNe_enc (h : IsEnc n e) (hn : n ≤ 60) (a b : α) : dNe (e a) (e b) = some (.bool (!decide (a = b))) := by
  unfold dNe
  rcases strEq_enc h a b with q | q
  · rw [q]
    show (if _ then _ else _) = _
    rw [if_pos ⟨(h.mono hn).fit a, (h.mono hn).fit b⟩, h.eqv]
  · rw [q]
theorem any_enc (h : IsEnc n e) (a : α) : ∀ xs : List α, ((xs.map e).any fun z => PyData.eqv z (e a)) = decide (a ∈ xs)
  | [] => by simp
  | x :: xs => by
    rw [List.map_cons, List.any_cons, any_enc h a xs, h.eqv, Bool.eq_iff_iff]
    simp only [Bool.or_eq_true, decide_eq_true_eq, List.mem_cons]
    exact or_congr eq_comm Iff.rfl
theorem dIn_enc (h : IsEnc n e) (hn : n ≤ 59) (a : α) (xs : List α) : dIn (e a) (.tuple (xs.map e)) = some (.bool (decide (a ∈ xs))) ∧ dIn (e a) (.list (xs.map e)) = some (.bool (decide (a ∈ xs))) := by
  have h1 := (h.mono (show n ≤ 60 by omega)).fit a
  have h2 := ((h.mono hn).tup).fit xs
  have h3 := ((h.mono hn).lst).fit xs
  constructor
  · unfold dIn; rw [if_pos ⟨h1, h2⟩]; simp only [dItems, Option.map_some, any_enc h]
  · unfold dIn; rw [if_pos ⟨h1, h3⟩]; simp only [dItems, Option.map_some, any_enc h]
theorem dNotIn_enc (h : IsEnc n e) (hn : n ≤ 59) (a : α) (xs : List α) : dNotIn (e a) (.tuple (xs.map e)) = some (.bool (!decide (a ∈ xs))) ∧ dNotIn (e a) (.list (xs.map e)) = some (.bool (!decide (a ∈ xs))) := by
  have h1 := (h.mono (show n ≤ 60 by omega)).fit a
  have h2 := ((h.mono hn).tup).fit xs
  have h3 := ((h.mono hn).lst).fit xs
  constructor
  · unfold dNotIn; rw [if_pos ⟨h1, h2⟩]; simp only [dItems, Option.map_some, any_enc h]
  · unfold dNotIn; rw [if_pos ⟨h1, h3⟩]; simp only [dItems, Option.map_some, any_enc h]
/-! first ones -/
def addA (acc : List α) (x : α) : List α := if x ∈ acc then acc else acc ++ [x]
def firsts (xs : List α) : List α := xs.foldl addA []
theorem firsts_snoc (xs : List α) (x : α) : firsts (xs ++ [x]) = addA (firsts xs) x := by simp [firsts, List.foldl_append]
@[simp] theorem firsts_nil : firsts ([] : List α) = [] := rfl
theorem mem_addA {acc : List α} {x y : α} : y ∈ addA acc x ↔ y ∈ acc ∨ y = x := by
  unfold addA
  split
  · rename_i h; constructor
    · exact .inl
    · rintro (h' | rfl) <;> assumption
  · simp
theorem mem_firsts {y : α} {xs : List α} : y ∈ firsts xs ↔ y ∈ xs := by
  refine snoc_ind (P := fun xs => y ∈ firsts xs ↔ y ∈ xs) (by simp) (fun xs x ih => ?_) xs
  rw [firsts_snoc, mem_addA, ih]; simp
theorem nodup_firsts (xs : List α) : (firsts xs).Nodup := by
  refine snoc_ind (P := fun xs => (firsts xs).Nodup) (by simp) (fun xs x ih => ?_) xs
  rw [firsts_snoc]
  unfold addA
  split
  · exact ih
  · rename_i h
    rw [List.nodup_append]
    exact ⟨ih, by simp, fun a ha b hb => by rw [List.mem_singleton.mp hb]; exact fun q => h (q ▸ ha)⟩
theorem firsts_len (xs : List α) : (firsts xs).length ≤ xs.length := by
  refine snoc_ind (P := fun xs => (firsts xs).length ≤ xs.length) (by simp) (fun xs x ih => ?_) xs
  rw [firsts_snoc]
  unfold addA
  split <;> simp <;> omega
theorem firsts_ne {xs : List α} (h : 1 ≤ xs.length) : 1 ≤ (firsts xs).length := by
  cases xs with
  | nil => simp at h
  | cons x r =>
    have : x ∈ firsts (x :: r) := mem_firsts.mpr (by simp)
    exact List.length_pos_iff.mpr (List.ne_nil_of_mem this)
theorem addF_enc (h : IsEnc n e) (acc : List α) (x : α) : addF (acc.map e) (e x) = (addA acc x).map e := by
  unfold addF addA
  rw [any_enc h]
  by_cases q : x ∈ acc <;> simp [q]
theorem byF_enc (h : IsEnc n e) (xs : List α) : byF (xs.map e) = (firsts xs).map e := by
  refine snoc_ind (P := fun xs => byF (xs.map e) = (firsts xs).map e) (by simp) (fun xs x ih => ?_) xs
  rw [List.map_append, firsts_snoc, List.map_cons, List.map_nil, byF_snoc, ih, addF_enc h]
/-! places -/
def nIx (a : α) : List α → Nat
  | [] => 0
  | x :: r => if x = a then 0 else nIx a r + 1
theorem nIx_lt {a : α} : ∀ {xs : List α}, a ∈ xs → nIx a xs < xs.length
  | [], h => by simp at h
  | x :: r, h => by
    unfold nIx
    split
    · simp
    · rename_i hx
      have : a ∈ r := by rcases List.mem_cons.mp h with q | q; exact absurd q.symm hx; exact q
      have := nIx_lt this
      simp; omega
theorem nIx_get {a : α} : ∀ {xs : List α}, a ∈ xs → xs[nIx a xs]? = some a
  | [], h => by simp at h
  | x :: r, h => by
    unfold nIx
    split
    · rename_i hx; simp [hx]
    · rename_i hx
      have : a ∈ r := by rcases List.mem_cons.mp h with q | q; exact absurd q.symm hx; exact q
      simpa using nIx_get this
theorem nIx_min {a : α} : ∀ {xs : List α} {i : Nat}, xs[i]? = some a → nIx a xs ≤ i
  | [], i, h => by simp at h
  | x :: r, 0, h => by
    unfold nIx
    rw [if_pos (by simpa using h)]; exact Nat.le_refl _
  | x :: r, i + 1, h => by
    unfold nIx
    split
    · omega
    · have := nIx_min (xs := r) (i := i) (by simpa using h); omega
theorem nIx_nodup {a : α} {xs : List α} (hd : xs.Nodup) {i : Nat} (h : xs[i]? = some a) : nIx a xs = i := by
  have h1 := nIx_min h
  obtain ⟨hi, he⟩ := List.getElem?_eq_some_iff.mp h
  have hm : a ∈ xs := by rw [← he]; exact List.getElem_mem hi
  have h2 := nIx_get hm
  obtain ⟨hj, he2⟩ := List.getElem?_eq_some_iff.mp h2
  exact (List.getElem_inj hd).mp (he2.trans he.symm)
theorem firstIx_enc (h : IsEnc n e) (a : α) : ∀ xs : List α, firstIx (e a) (xs.map e) = if a ∈ xs then some (nIx a xs) else none
  | [] => by simp [firstIx]
  | x :: r => by
    rw [List.map_cons]
    unfold firstIx nIx
    rw [h.eqv, firstIx_enc h a r]
    by_cases q : x = a
    · simp [q]
    · have q' : ¬ a = x := fun z => q z.symm
      by_cases q2 : a ∈ r <;> simp [q, q', q2]
theorem dIndex_enc (h : IsEnc n e) (hn : n ≤ 59) {a : α} {xs : List α} (hm : a ∈ xs) : dIndex (.list (xs.map e)) (e a) = some (.int (nIx a xs : Nat)) := by
  unfold dIndex
  show (if _ then _ else _) = _
  rw [if_pos ⟨((h.mono hn).lst).fit xs, (h.mono (show n ≤ 60 by omega)).fit a⟩, firstIx_enc h, if_pos hm]; rfl
end

/-! ### places by ints -/
section
variable {α β : Type}
theorem atI_of {xs : List α} {i : Int} (h : 0 ≤ i) : atI xs i = xs[i.toNat]? := by
  obtain ⟨k, rfl⟩ := Int.eq_ofNat_of_zero_le h
  unfold atI ixN
  simp only [Int.natCast_nonneg, if_true, Int.toNat_natCast]
  by_cases h : k < xs.length
  · rw [if_pos (by omega)]; simp
  · rw [if_neg (by omega), List.getElem?_eq_none (by omega)]; rfl
@[simp] theorem atI_map (e : α → β) (xs : List α) (i : Int) : atI (xs.map e) i = (atI xs i).map e := by
  unfold atI
  rw [List.length_map]
  cases ixN xs.length i with
  | none => rfl
  | some j => simp
/-- the item at a place -/
def nth [Inhabited α] (xs : List α) (i : Int) : α := xs.getD i.toNat default
theorem atI_nth [Inhabited α] {xs : List α} {i : Int} (h1 : 0 ≤ i) (h2 : i < xs.length) : atI xs i = some (nth xs i) := by
  rw [atI_of h1]
  have : i.toNat < xs.length := by omega
  simp [nth, List.getD_eq_getElem?_getD, this]
theorem nth_mem [Inhabited α] {xs : List α} {i : Int} (h1 : 0 ≤ i) (h2 : i < xs.length) : nth xs i ∈ xs := by
  have : i.toNat < xs.length := by omega
  simp [nth, List.getD_eq_getElem?_getD, this]
@[simp] theorem nth_nat [Inhabited α] (xs : List α) (i : Nat) : nth xs (i : Int) = xs.getD i default := by simp [nth]
theorem nth_map [Inhabited α] [Inhabited β] (e : α → β) {xs : List α} {i : Int} (h1 : 0 ≤ i) (h2 : i < xs.length) : nth (xs.map e) i = e (nth xs i) := by
  have : i.toNat < xs.length := by omega
  simp [nth, List.getD_eq_getElem?_getD, this]
theorem nth_ext [Inhabited α] {xs ys : List α} (hl : xs.length = ys.length) (h : ∀ i : Nat, i < xs.length → nth xs i = nth ys i) : xs = ys := by
  apply List.ext_getElem hl
  intro i h1 h2
  have := h i h1
  simpa [List.getD_eq_getElem?_getD, h1, h2] using this
theorem cutD_map (e : α → PyData) (xs : List α) (lo hi : Option Int) : cutD (xs.map e) lo hi = ((xs.drop (HT.sIx xs.length 0 lo)).take (HT.sIx xs.length xs.length hi - HT.sIx xs.length 0 lo)).map e := by
  unfold cutD
  rw [List.length_map, List.map_take, List.map_drop]
theorem cutI_to {xs : List PyData} {k : Int} (h : 0 ≤ k) : cutD xs none (some k) = xs.take k.toNat := cut_to' xs k k.toNat (by omega)
theorem cutI_from {xs : List PyData} {k : Int} (h : 0 ≤ k) : cutD xs (some k) none = xs.drop k.toNat := cut_from' xs k k.toNat (by omega)
theorem cutI_all (xs : List PyData) : cutD xs none none = xs := by
  unfold cutD
  rw [HT.sIx_none, HT.sIx_none]; simp
theorem zipD_map (e : α → PyData) (f : β → PyData) : ∀ (xs : List α) (ys : List β), zipD (xs.map e) (ys.map f) = (xs.zip ys).map fun p => .tuple [e p.1, f p.2]
  | [], _ => by simp [zipD]
  | _ :: _, [] => by simp [zipD]
  | x :: xs, y :: ys => by simp [zipD, zipD_map e f xs ys]
theorem enumD_map (e : α → PyData) : ∀ (xs : List α) (c : Nat), enumD (c : Int) (xs.map e) = (xs.zipIdx c).map fun p => .tuple [.int (p.2 : Nat), e p.1]
  | [], _ => by simp [enumD]
  | x :: xs, c => by
    have := enumD_map e xs (c + 1)
    simp only [List.map_cons, enumD, List.zipIdx_cons]
    rw [← this]; rfl
theorem enumD_map0 (e : α → PyData) (xs : List α) : enumD 0 (xs.map e) = xs.zipIdx.map fun p => .tuple [.int (p.2 : Nat), e p.1] := enumD_map e xs 0
theorem zipIdx_split {α : Type} {l : List α} {pre post : List (α × Nat)} {x : α} {i : Nat} (h : l.zipIdx = pre ++ (x, i) :: post) : i = pre.length ∧ l = pre.map Prod.fst ++ x :: post.map Prod.fst := by
  constructor
  · have h1 := congrArg (fun l => l[pre.length]?) h
    simp only [List.getElem?_append_right (Nat.le_refl _), Nat.sub_self, List.getElem?_cons_zero, List.getElem?_zipIdx] at h1
    obtain ⟨y, _, h2⟩ := Option.map_eq_some_iff.mp h1
    have := congrArg Prod.snd h2
    simp at this
    exact this.symm
  · have h1 := congrArg (List.map Prod.fst) h
    rw [List.zipIdx_map_fst] at h1
    rw [h1]; simp
/-- 0 .. n - 1 -/
def upto (n : Nat) : List Int := (List.range n).map fun (i : Nat) => (i : Int)
@[simp] theorem upto_len (n : Nat) : (upto n).length = n := by simp [upto]
theorem mem_upto {n : Nat} {i : Int} : i ∈ upto n ↔ 0 ≤ i ∧ i < n := by
  unfold upto
  rw [List.mem_map]
  constructor
  · rintro ⟨k, hk, rfl⟩; have := List.mem_range.mp hk; omega
  · intro h; exact ⟨i.toNat, List.mem_range.mpr (by omega), by omega⟩
theorem upto_succ (n : Nat) : upto (n + 1) = upto n ++ [(n : Int)] := by simp [upto, List.range_succ]
theorem rngD_upto (n : Nat) : rngD 0 n = (upto n).map .int := by simp [rngD, upto]
theorem upto_pw (n : Nat) : (upto n).Pairwise (· < ·) := by
  unfold upto
  rw [List.pairwise_map]
  exact List.pairwise_lt_range.imp fun h => by omega
theorem upto_get {n i : Nat} (h : i < n) : (upto n)[i]? = some (i : Int) := by simp [upto, h]
theorem rngI_int {j : Int} (h1 : 0 ≤ j) (h2 : j ≤ 100000) : rngI [.int j] = some ((upto j.toNat).map .int) := by rw [rngI_ok h1 h2, rngD_upto]
theorem rngI_nat (n : Nat) (h : n ≤ 100000) : rngI [.int (n : Int)] = some ((upto n).map .int) := by rw [rngI_n n h, rngD_upto]
end

/-! ### tuples of ints, tuples of these, drafts -/
def tI (ns : List Int) : PyData := .tuple (ns.map .int)
def tT (ts : List (List Int)) : PyData := .tuple (ts.map tI)
def drD (rows : List (List Int)) : PyData := .tuple [.str "draft", tT rows]
section
variable (ns ms : List Int) (ts us : List (List Int))
theorem enc_tI : IsEnc 1 tI := (enc_int 0).tup
theorem enc_tT : IsEnc 2 tT := enc_tI.tup
theorem strOk_lit {x : Str} (h : PyData.strOk x = true := by decide +kernel) : PyData.strOk x = true := h
theorem enc_drD : IsEnc 3 drD := ⟨fun a => by
    unfold drD
    rw [fit_tuple]
    have : PyData.strOk "draft" = true := by decide +kernel
    simp [fit_str, this, enc_tT.fit], fun a b => by
    unfold drD
    simp only [PyData.eqv, PyData.eqvAll, enc_tT.eqv, Bool.and_true]
    simp⟩
@[simp] theorem items_tI : dItems (tI ns) = some (ns.map .int) := rfl
@[simp] theorem items_tT : dItems (tT ts) = some (ts.map tI) := rfl
@[simp] theorem len_tI : dLen [tI ns] = some (.int ns.length) := by show some (PyData.int (ns.map PyData.int).length) = _; rw [List.length_map]
@[simp] theorem len_tT : dLen [tT ts] = some (.int ts.length) := by show some (PyData.int (ts.map tI).length) = _; rw [List.length_map]
@[simp] theorem ix_tI (i : Int) : dIx (tI ns) (.int i) = (atI ns i).map .int := atI_map _ _ _
@[simp] theorem ix_tT (i : Int) : dIx (tT ts) (.int i) = (atI ts i).map tI := atI_map _ _ _
@[simp] theorem ix_dr1 : dIx (drD ts) (.int 1) = some (tT ts) := by show atI _ _ = _; simp
@[simp] theorem ix_dr0 : dIx (drD ts) (.int 0) = some (.str "draft") := by show atI _ _ = _; simp
@[simp] theorem tup_tI : dTuple [tI ns] = some (tI ns) := rfl
@[simp] theorem tup_tT : dTuple [tT ns'] = some (tT ns') := rfl
@[simp] theorem list_tI : dListL [tI ns] = some (ns.map .int) := rfl
@[simp] theorem list_tT : dListL [tT ts] = some (ts.map tI) := rfl
@[simp] theorem isTy_tI (T : Tg) : isTy T (tI ns) = some (tgIs T .tuple) := rfl
@[simp] theorem isTy_tT (T : Tg) : isTy T (tT ts) = some (tgIs T .tuple) := rfl
@[simp] theorem isTy_dr (T : Tg) : isTy T (drD ts) = some (tgIs T .tuple) := rfl
@[simp] theorem dTup_tI : dTup (tI ns) = some (ns.map .int) := rfl
@[simp] theorem dTup_tT : dTup (tT ts) = some (ts.map tI) := rfl
@[simp] theorem rev_tI : dRev (tI ns) = some (tI ns.reverse) := by show some (PyData.tuple (ns.map PyData.int).reverse) = _; rw [← List.map_reverse]; rfl
@[simp] theorem rev_tT : dRev (tT ts) = some (tT ts.reverse) := by show some (PyData.tuple (ts.map tI).reverse) = _; rw [← List.map_reverse]; rfl
@[simp] theorem enumI_tI : enumI [tI ns] = some (ns.zipIdx.map fun p => .tuple [.int (p.2 : Nat), .int p.1]) := by show some (enumD 0 (ns.map .int)) = _; rw [enumD_map0]
@[simp] theorem enumI_tT : enumI [tT ts] = some (ts.zipIdx.map fun p => .tuple [.int (p.2 : Nat), tI p.1]) := by show some (enumD 0 (ts.map tI)) = _; rw [enumD_map0]
@[simp] theorem zip_tI : zipI [tI ns, tI ms] = some ((ns.zip ms).map fun p => .tuple [.int p.1, .int p.2]) := by show some (zipD (ns.map .int) (ms.map .int)) = _; rw [zipD_map]
@[simp] theorem zip_tT : zipI [tT ts, tT us] = some ((ts.zip us).map fun p => .tuple [tI p.1, tI p.2]) := by show some (zipD (ts.map tI) (us.map tI)) = _; rw [zipD_map]
theorem rising_zip : ∀ l : List Int, ((l.zip (l.drop 1)).all fun p => decide (p.1 < p.2)) = rising l
  | [] => rfl
  | [x] => rfl
  | x :: y :: r => by
    have ih := rising_zip (y :: r)
    simp only [List.drop_succ_cons, List.drop_zero] at ih ⊢
    simp only [List.zip_cons_cons, List.all_cons, rising, ih]
@[simp] theorem eq_tI : dEq (tI ns) (tI ms) = some (.bool (decide (ns = ms))) := dEq_enc enc_tI (by decide) _ _
@[simp] theorem ne_tI : dNe (tI ns) (tI ms) = some (.bool (!decide (ns = ms))) := dNe_enc enc_tI (by decide) _ _
@[simp] theorem eq_tT : dEq (tT ts) (tT us) = some (.bool (decide (ts = us))) := dEq_enc enc_tT (by decide) _ _
@[simp] theorem ne_tT : dNe (tT ts) (tT us) = some (.bool (!decide (ts = us))) := dNe_enc enc_tT (by decide) _ _
@[simp] theorem eq_dr : dEq (drD ts) (drD us) = some (.bool (decide (ts = us))) := dEq_enc enc_drD (by decide) _ _
@[simp] theorem ne_dr : dNe (drD ts) (drD us) = some (.bool (!decide (ts = us))) := dNe_enc enc_drD (by decide) _ _
@[simp] theorem in_tI (a : Int) : dIn (.int a) (tI ns) = some (.bool (decide (a ∈ ns))) := (dIn_enc (enc_int 0) (by decide) a ns).1
@[simp] theorem notIn_tI (a : Int) : dNotIn (.int a) (tI ns) = some (.bool (!decide (a ∈ ns))) := (dNotIn_enc (enc_int 0) (by decide) a ns).1
@[simp] theorem in_lI (a : Int) : dIn (.int a) (.list (ns.map .int)) = some (.bool (decide (a ∈ ns))) := (dIn_enc (enc_int 0) (by decide) a ns).2
@[simp] theorem notIn_lI (a : Int) : dNotIn (.int a) (.list (ns.map .int)) = some (.bool (!decide (a ∈ ns))) := (dNotIn_enc (enc_int 0) (by decide) a ns).2
@[simp] theorem in_lT : dIn (tI ns) (.list (ts.map tI)) = some (.bool (decide (ns ∈ ts))) := (dIn_enc enc_tI (by decide) ns ts).2.trans (by congr)
@[simp] theorem notIn_lT : dNotIn (tI ns) (.list (ts.map tI)) = some (.bool (!decide (ns ∈ ts))) := (dNotIn_enc enc_tI (by decide) ns ts).2.trans (by congr)
@[simp] theorem in_tT : dIn (tI ns) (tT ts) = some (.bool (decide (ns ∈ ts))) := (dIn_enc enc_tI (by decide) ns ts).1.trans (by congr)
theorem add_tI (h : ns.length + ms.length ≤ 100000) : dAdd (tI ns) (tI ms) = some (tI (ns ++ ms)) := by
  show (if (ns.map PyData.int).length + (ms.map PyData.int).length ≤ 100000 then _ else _) = _
  rw [if_pos (by simpa using h), ← List.map_append]; rfl
theorem add_tT (h : ts.length + us.length ≤ 100000) : dAdd (tT ts) (tT us) = some (tT (ts ++ us)) := by
  show (if (ts.map tI).length + (us.map tI).length ≤ 100000 then _ else _) = _
  rw [if_pos (by simpa using h), ← List.map_append]; rfl
theorem cut_tI_to {k : Int} (h : 0 ≤ k) : dCut (tI ns) none (some k) = some (tI (ns.take k.toNat)) := by
  show some (PyData.tuple (cutD (ns.map PyData.int) none (some k))) = _
  rw [cutI_to h, ← List.map_take]; rfl
theorem cut_tI_from {k : Int} (h : 0 ≤ k) : dCut (tI ns) (some k) none = some (tI (ns.drop k.toNat)) := by
  show some (PyData.tuple (cutD (ns.map PyData.int) (some k) none)) = _
  rw [cutI_from h, ← List.map_drop]; rfl
theorem cut_tT_to {k : Int} (h : 0 ≤ k) : dCut (tT ts) none (some k) = some (tT (ts.take k.toNat)) := by
  show some (PyData.tuple (cutD (ts.map tI) none (some k))) = _
  rw [cutI_to h, ← List.map_take]; rfl
theorem cut_tT_from {k : Int} (h : 0 ≤ k) : dCut (tT ts) (some k) none = some (tT (ts.drop k.toNat)) := by
  show some (PyData.tuple (cutD (ts.map tI) (some k) none)) = _
  rw [cutI_from h, ← List.map_drop]; rfl
@[simp] theorem tup_lI : dTuple [.list (ns.map .int)] = some (tI ns) := rfl
@[simp] theorem tup_lT : dTuple [.list (ts.map tI)] = some (tT ts) := rfl
@[simp] theorem okT_tI : okT (tI ns) = true := rfl
@[simp] theorem okT_tT : okT (tT ts) = true := rfl
@[simp] theorem okT_dr : okT (drD ts) = true := rfl
@[simp] theorem sort_lI : dSortedL [.list (ns.map .int)] = some ((sortI ns).map .int) := by
  simp only [dSortedL, dItems, dInts_map, Option.bind_some, Option.map_some]
@[simp] theorem sort_tI : dSortedL [tI ns] = some ((sortI ns).map .int) := by
  simp only [dSortedL, items_tI, dInts_map, Option.bind_some, Option.map_some]
theorem setL_tI (h1 : ns.length ≤ 1000) (h2 : (setI ns).length < 64) : dSetL [tI ns] = some ((setI ns).map .int) := dSetL_ints h1 h2
@[simp] theorem list_lI : dListL [.list (ns.map .int)] = some (ns.map .int) := rfl
@[simp] theorem len_map_l {α : Type} (e : α → PyData) (xs : List α) : dLen [.list (xs.map e)] = some (.int xs.length) := by show some (PyData.int (xs.map e).length) = _; rw [List.length_map]
@[simp] theorem len_map_t {α : Type} (e : α → PyData) (xs : List α) : dLen [.tuple (xs.map e)] = some (.int xs.length) := by show some (PyData.int (xs.map e).length) = _; rw [List.length_map]
@[simp] theorem ix_map_l {α : Type} (e : α → PyData) (xs : List α) (i : Int) : dIx (.list (xs.map e)) (.int i) = (atI xs i).map e := atI_map _ _ _
@[simp] theorem ix_map_t {α : Type} (e : α → PyData) (xs : List α) (i : Int) : dIx (.tuple (xs.map e)) (.int i) = (atI xs i).map e := atI_map _ _ _
end
@[simp] theorem fold_tI (ns : List Int) : PyData.tuple (ns.map .int) = tI ns := rfl
@[simp] theorem fold_tT (ns : List (List Int)) : PyData.tuple (ns.map tI) = tT ns := rfl
@[simp] theorem fold_tIf {α : Type} (g : α → Int) (l : List α) : PyData.tuple (l.map fun a => .int (g a)) = tI (l.map g) := by unfold tI; rw [List.map_map]; rfl
@[simp] theorem fold_tIc {α : Type} (g : α → Int) (l : List α) : PyData.tuple (l.map (PyData.int ∘ g)) = tI (l.map g) := fold_tIf g l
@[simp] theorem fold_tTf {α : Type} (g : α → List Int) (l : List α) : PyData.tuple (l.map fun a => tI (g a)) = tT (l.map g) := by unfold tT; rw [List.map_map]; rfl
@[simp] theorem fold_tTc {α : Type} (g : α → List Int) (l : List α) : PyData.tuple (l.map (tI ∘ g)) = tT (l.map g) := fold_tTf g l
@[simp] theorem fold_dr (rows : List (List Int)) : PyData.tuple [.str "draft", tT rows] = drD rows := rfl
@[simp] theorem dTup_t (xs : List PyData) : dTup (.tuple xs) = some xs := rfl
@[simp] theorem dInt_b (b : Bool) : dInt [.bool b] = some (.int (if b = true then 1 else 0)) := by cases b <;> rfl
theorem ne_nil_enc {α : Type} [DecidableEq α] {n : Nat} {e : α → PyData} (h : IsEnc n e) (hn : n ≤ 59) (xs : List α) : dNe (.list (xs.map e)) (.list []) = some (.bool (!decide (xs = []))) := dNe_enc ((h.mono hn).lst) (by decide) xs []
theorem eq_nil_enc {α : Type} [DecidableEq α] {n : Nat} {e : α → PyData} (h : IsEnc n e) (hn : n ≤ 59) (xs : List α) : dEq (.list (xs.map e)) (.list []) = some (.bool (decide (xs = []))) := dEq_enc ((h.mono hn).lst) (by decide) xs []
@[simp] theorem ne_nil_lI (ns : List Int) : dNe (.list (ns.map .int)) (.list []) = some (.bool (!decide (ns = []))) := ne_nil_enc (enc_int 0) (by decide) ns
@[simp] theorem eq_nil_lI (ns : List Int) : dEq (.list (ns.map .int)) (.list []) = some (.bool (decide (ns = []))) := eq_nil_enc (enc_int 0) (by decide) ns
theorem eraseIdx_map {α β : Type} (e : α → β) : ∀ (xs : List α) (i : Nat), (xs.map e).eraseIdx i = (xs.eraseIdx i).map e
  | [], _ => rfl
  | _ :: _, 0 => rfl
  | x :: xs, i + 1 => by simp [eraseIdx_map e xs i]
theorem popAt_map {α : Type} (e : α → PyData) {xs : List α} {i : Int} (h1 : 0 ≤ i) (h2 : i < xs.length) (h3 : xs.length ≤ 100000) : mPopAt (xs.map e) [.int i] = some (e (xs[i.toNat]'(by omega)), (xs.eraseIdx i.toNat).map e) := by
  have h4 : i.toNat < xs.length := by omega
  have h5 : ixN (xs.map e).length i = some i.toNat := by unfold ixN; rw [List.length_map, if_pos h1, if_pos (by omega)]
  have h6 : mPop (xs.map e) [.int i] = (ixN (xs.map e).length i).bind fun j => ((xs.map e)[j]?).map fun y => (y, (xs.map e).eraseIdx j) := rfl
  unfold mPopAt
  rw [if_pos ⟨by simpa using h3, rfl⟩, h6, h5]
  simp [h4, eraseIdx_map]
@[simp] theorem ne_nil_nil : dNe (.list []) (.list []) = some (.bool false) := by simpa using ne_nil_lI []
@[simp] theorem eq_nil_nil : dEq (.list []) (.list []) = some (.bool true) := by simpa using eq_nil_lI []
theorem any_str (a : Str) : ∀ ss : List Str, ((ss.map PyData.str).any fun z => PyData.eqv z (.str a)) = decide (a ∈ ss)
  | [] => by simp
  | x :: xs => by
    rw [List.map_cons, List.any_cons, any_str a xs, Bool.eq_iff_iff]
    simp only [PyData.eqv, Bool.or_eq_true, decide_eq_true_eq, List.mem_cons, beq_iff_eq]
    exact or_congr eq_comm Iff.rfl
theorem in_strs {a : Str} {ss : List Str} (h : PyData.strOk a = true) (hs : ss.all PyData.strOk = true) : dIn (.str a) (.tuple (ss.map .str)) = some (.bool (decide (a ∈ ss))) ∧ dNotIn (.str a) (.tuple (ss.map .str)) = some (.bool (!decide (a ∈ ss))) := by
  have h2 : fitN 60 (.tuple (ss.map .str)) = true := by
    rw [fit_tuple, List.all_map, List.all_eq_true]
    intro x hx
    simpa [fit_str] using List.all_eq_true.mp hs x hx
  have h1 : fitN 60 (.str a) = true := by rw [fit_str]; exact h
  constructor
  · unfold dIn; rw [if_pos ⟨h1, h2⟩]; simp only [dItems, Option.map_some, any_str]
  · unfold dNotIn; rw [if_pos ⟨h1, h2⟩]; simp only [dItems, Option.map_some, any_str]
@[simp] theorem unb1_bor (s : SD) : unb1 s (bor s) = s := by cases s <;> rfl
theorem all_map {α : Type} (f : α → Bool) (xs : List α) : dAll [.list (xs.map fun x => .bool (f x))] = some (.bool (xs.all f)) := dAll_f f xs
theorem any_map {α : Type} (f : α → Bool) (xs : List α) : dAny [.list (xs.map fun x => .bool (f x))] = some (.bool (xs.any f)) := dAny_f f xs

/-! ### drafts -/
structure IsDr (rows : List (List Int)) (n : Nat) : Prop where
  r1 : 1 ≤ rows.length
  r2 : rows.length ≤ 12
  n1 : 1 ≤ n
  n2 : n ≤ 12
  len : ∀ r ∈ rows, r.length = n
  bit : ∀ r ∈ rows, ∀ x ∈ r, 0 ≤ x ∧ x < 2
/-- the columns of rows of n cells -/
def colsOf (n : Nat) (rows : List (List Int)) : List (List Int) := (upto n).map fun c => rows.map fun r => nth r c
@[simp] theorem colsOf_len (n : Nat) (rows : List (List Int)) : (colsOf n rows).length = n := by simp [colsOf]
theorem IsDr.ne {rows : List (List Int)} {n : Nat} (v : IsDr rows n) : ∃ r0 rs, rows = r0 :: rs := by
  cases rows with
  | nil => have := v.r1; simp at this
  | cons r0 rs => exact ⟨r0, rs, rfl⟩
theorem IsDr.at0 {rows : List (List Int)} {n : Nat} (v : IsDr rows n) : ∃ r0, atI rows 0 = some r0 ∧ r0.length = n ∧ r0 ∈ rows := by
  obtain ⟨r0, rs, rfl⟩ := v.ne
  exact ⟨r0, by simp [atI, ixN], v.len r0 (by simp), by simp⟩
theorem IsDr.row {rows : List (List Int)} {n : Nat} (v : IsDr rows n) {i : Int} (h1 : 0 ≤ i) (h2 : i < rows.length) : (nth rows i).length = n := v.len _ (nth_mem h1 h2)
theorem IsDr.cell {rows : List (List Int)} {n : Nat} (v : IsDr rows n) {r : List Int} (h : r ∈ rows) {j : Int} (h3 : 0 ≤ j) (h4 : j < n) : 0 ≤ nth r j ∧ nth r j < 2 :=
  v.bit r h _ (nth_mem h3 (by rw [v.len r h]; exact h4))
theorem IsDr.cols {rows : List (List Int)} {n : Nat} (v : IsDr rows n) : IsDr (colsOf n rows) rows.length := by
  refine ⟨by simpa using v.n1, by simpa using v.n2, v.r1, v.r2, fun r hr => ?_, fun r hr x hx => ?_⟩
  · obtain ⟨c, _, rfl⟩ := List.mem_map.mp hr
    simp
  · obtain ⟨c, hc, rfl⟩ := List.mem_map.mp hr
    obtain ⟨q, hq, rfl⟩ := List.mem_map.mp hx
    have := mem_upto.mp hc
    exact v.cell hq this.1 this.2
/-! ### comprehensions that draw -/
/-- the law's pot -/
abbrev P (a b : Int) : SD := .own true [.int a, .int b]
section
variable {vs : List Nat} {gs : GS} {fc : BS} {fd : DS} {xs : List PyData} {R : List SD} {a b : Int} {Q : List PyData × List SD → Prop} {α β : Type}
theorem WLc.pot (J : List PyData → List PyData → Prop) (h0 : J [] []) (h : ∀ pre x post ys a b, xs = pre ++ x :: post → J pre ys → WLS vs gs fc fd x (P a b :: R) fun q => ∃ a' b', q.2 = P a' b' :: R ∧ J (pre ++ [x]) (ys ++ q.1.toList))
    (k : ∀ ys a b, J xs ys → Q (ys, P a b :: R)) : WLc vs gs fc fd xs (P a b :: R) Q := by
  apply WLc.inv (fun pre ys S => ∃ a b, S = P a b :: R ∧ J pre ys) ⟨a, b, rfl, h0⟩
  · rintro pre x post ys S he ⟨a, b, rfl, hj⟩
    refine OV.use (h pre x post ys a b he hj) ?_
    rintro q ⟨a', b', h1, h2⟩
    exact ⟨a', b', h1, h2⟩
  · rintro ys S ⟨a, b, rfl, hj⟩
    exact k ys a b hj
/-- an item each, of a kind -/
theorem WLc.potE (e : α → PyData) (T : α → Prop) (h : ∀ x ∈ xs, ∀ a b, WLS vs gs fc fd x (P a b :: R) fun q => ∃ y a' b', q = (some (e y), P a' b' :: R) ∧ T y)
    (k : ∀ (ys : List α) a b, ys.length = xs.length → (∀ y ∈ ys, T y) → Q (ys.map e, P a b :: R)) : WLc vs gs fc fd xs (P a b :: R) Q := by
  apply WLc.pot (fun pre ys => ∃ zs : List α, ys = zs.map e ∧ zs.length = pre.length ∧ ∀ y ∈ zs, T y) ⟨[], rfl, rfl, by simp⟩
  · rintro pre x post ys a b he ⟨zs, rfl, hl, hz⟩
    refine OV.use (h x (by rw [he]; simp) a b) ?_
    rintro q ⟨y, a', b', rfl, hy⟩
    refine ⟨a', b', rfl, zs ++ [y], by simp, by simp [hl], fun z hz' => ?_⟩
    rcases List.mem_append.mp hz' with h' | h'
    · exact hz z h'
    · rw [List.mem_singleton.mp h']; exact hy
  · rintro ys a b ⟨zs, rfl, hl, hz⟩
    exact k zs a b hl hz
/-- some of the items -/
theorem WLc.potS {l : List α} (e : α → PyData) (h : ∀ x ∈ l, ∀ a b, WLS vs gs fc fd (e x) (P a b :: R) fun q => ∃ (c : Bool) (a' b' : Int), q = (if c = true then some (e x) else none, P a' b' :: R))
    (k : ∀ (ys : List α) a b, ys.Sublist l → Q (ys.map e, P a b :: R)) : WLc vs gs fc fd (l.map e) (P a b :: R) Q := by
  have key : ∀ (l : List α), (∀ x ∈ l, ∀ a b, WLS vs gs fc fd (e x) (P a b :: R) fun q => ∃ (c : Bool) (a' b' : Int), q = (if c = true then some (e x) else none, P a' b' :: R)) → ∀ a b, ∃ ys a' b', lcGo vs gs fc fd (l.map e) (P a b :: R) = some (List.map e ys, P a' b' :: R) ∧ ys.Sublist l := by
    intro l
    induction l with
    | nil => intro _ a b; exact ⟨[], a, b, rfl, .refl _⟩
    | cons x l ih =>
      intro h a b
      obtain ⟨q, h1, c, a1, b1, rfl⟩ := h x (by simp) a b
      obtain ⟨ys, a2, b2, h2, h3⟩ := ih (fun y hy => h y (List.mem_cons_of_mem _ hy)) a1 b1
      rw [List.map_cons, lcGo_cons, h1]
      simp only [Option.bind_some, h2, Option.map_some]
      cases c with
      | true => exact ⟨x :: ys, a2, b2, by simp, h3.cons₂ x⟩
      | false => exact ⟨ys, a2, b2, by simp, h3.cons x⟩
  obtain ⟨ys, a', b', h1, h2⟩ := key l h a b
  exact ⟨_, h1, k ys a' b' h2⟩
end
theorem sub_upto {n : Nat} {ys : List Int} (h : ys.Sublist (upto n)) : LotI n ys := ⟨List.Pairwise.sublist h (upto_pw n), fun k hk => mem_upto.mp (h.subset hk)⟩
theorem lot_len {m : Nat} {ns : List Int} (h : LotI m ns) : ns.length ≤ m := by
  have := setI_few (m := m) (ns := ns) fun k hk => by have := h.2 k hk; omega
  rwa [setI_self h.1] at this
theorem lot_lenZ {m : Int} {ns : List Int} (h : LotI m ns) (h0 : 0 ≤ m) : (ns.length : Int) ≤ m := by
  obtain ⟨k, rfl⟩ := Int.eq_ofNat_of_zero_le h0
  have := lot_len (m := k) h
  simpa using this
end DL

/-! ### the text -/
namespace PK88
open PySem PySem.Spec PyProof.Rows L2 DL
def topS (i : Nat) : Stmt := PySem.Challenge.pw_onecloth_k88_any_value_as_loom_of_a_draf.main.body.getD i (.Pass ⟨0, 0, 0, 0⟩)
abbrev s__law_draw : Stmt := topS 49
theorem sc__law_draw : FnScope ["pot", "many", "digit"] ["pot", "many"] (defScope s__law_draw) := ⟨rfl, rfl, rfl, by decide +kernel, rfl, by decide +kernel, by decide +kernel⟩
abbrev s__law_loom : Stmt := topS 52
theorem sc__law_loom : FnScope ["pot", "most", "shafts", "treadles", "threading", "ties", "treadling", "warp", "treadle", "weft", "shaft"] ["pot", "most"] (defScope s__law_loom) := ⟨rfl, rfl, rfl, by decide +kernel, rfl, by decide +kernel, by decide +kernel⟩
abbrev s__law_woven : Stmt := topS 53
theorem sc__law_woven : FnScope ["loom", "rows", "treadle", "shaft"] ["loom"] (defScope s__law_woven) := ⟨rfl, rfl, rfl, by decide +kernel, rfl, by decide +kernel, by decide +kernel⟩
abbrev s_is_tuple : Stmt := topS 3
theorem sc_is_tuple : FnScope ["value", "many"] ["value", "many"] (defScope s_is_tuple) := ⟨rfl, rfl, rfl, by decide +kernel, rfl, by decide +kernel, by decide +kernel⟩
abbrev s_is_headed : Stmt := topS 15
theorem sc_is_headed : FnScope ["value", "word"] ["value", "word"] (defScope s_is_headed) := ⟨rfl, rfl, rfl, by decide +kernel, rfl, by decide +kernel, by decide +kernel⟩
abbrev s_is_integer : Stmt := topS 1
theorem sc_is_integer : FnScope ["value"] ["value"] (defScope s_is_integer) := ⟨rfl, rfl, rfl, by decide +kernel, rfl, by decide +kernel, by decide +kernel⟩
abbrev s_is_within : Stmt := topS 2
theorem sc_is_within : FnScope ["value", "least", "most"] ["value", "least", "most"] (defScope s_is_within) := ⟨rfl, rfl, rfl, by decide +kernel, rfl, by decide +kernel, by decide +kernel⟩
abbrev s_are_rows_of : Stmt := topS 14
theorem sc_are_rows_of : FnScope ["value", "signs", "row", "one"] ["value", "signs"] (defScope s_are_rows_of) := ⟨rfl, rfl, rfl, by decide +kernel, rfl, by decide +kernel, by decide +kernel⟩
abbrev s_is_draft_value : Stmt := topS 16
theorem sc_is_draft_value : FnScope ["value"] ["value"] (defScope s_is_draft_value) := ⟨rfl, rfl, rfl, by decide +kernel, rfl, by decide +kernel, by decide +kernel⟩
abbrev s_want_draft : Stmt := topS 17
theorem sc_want_draft : FnScope ["draft"] ["draft"] (defScope s_want_draft) := ⟨rfl, rfl, rfl, by decide +kernel, rfl, by decide +kernel, by decide +kernel⟩
abbrev s_by_first : Stmt := topS 27
theorem sc_by_first : FnScope ["values", "found", "one"] ["values"] (defScope s_by_first) := ⟨rfl, rfl, rfl, by decide +kernel, rfl, by decide +kernel, by decide +kernel⟩
abbrev s_many_warps : Stmt := topS 18
theorem sc_many_warps : FnScope ["draft"] ["draft"] (defScope s_many_warps) := ⟨rfl, rfl, rfl, by decide +kernel, rfl, by decide +kernel, by decide +kernel⟩
abbrev s_columns_of : Stmt := topS 29
theorem sc_columns_of : FnScope ["draft", "warp", "row"] ["draft"] (defScope s_columns_of) := ⟨rfl, rfl, rfl, by decide +kernel, rfl, by decide +kernel, by decide +kernel⟩
abbrev s_lines_of : Stmt := topS 34
theorem sc_lines_of : FnScope ["draft", "kind"] ["draft", "kind"] (defScope s_lines_of) := ⟨rfl, rfl, rfl, by decide +kernel, rfl, by decide +kernel, by decide +kernel⟩
abbrev s_many_unlike : Stmt := topS 36
theorem sc_many_unlike : FnScope ["draft", "kind"] ["draft", "kind"] (defScope s_many_unlike) := ⟨rfl, rfl, rfl, by decide +kernel, rfl, by decide +kernel, by decide +kernel⟩
abbrev s_fewest_shafts : Stmt := topS 42
theorem sc_fewest_shafts : FnScope ["draft"] ["draft"] (defScope s_fewest_shafts) := ⟨rfl, rfl, rfl, by decide +kernel, rfl, by decide +kernel, by decide +kernel⟩
abbrev s_fewest_treadles : Stmt := topS 43
theorem sc_fewest_treadles : FnScope ["draft"] ["draft"] (defScope s_fewest_treadles) := ⟨rfl, rfl, rfl, by decide +kernel, rfl, by decide +kernel, by decide +kernel⟩
abbrev s_want_most : Stmt := topS 24
theorem sc_want_most : FnScope ["value"] ["value"] (defScope s_want_most) := ⟨rfl, rfl, rfl, by decide +kernel, rfl, by decide +kernel, by decide +kernel⟩
abbrev s_want_numbers : Stmt := topS 41
theorem sc_want_numbers : FnScope ["draft", "shafts", "treadles"] ["draft", "shafts", "treadles"] (defScope s_want_numbers) := ⟨rfl, rfl, rfl, by decide +kernel, rfl, by decide +kernel, by decide +kernel⟩
abbrev s_first_unlike : Stmt := topS 37
theorem sc_first_unlike : FnScope ["lines", "one", "other", "near", "far"] ["lines", "one", "other"] (defScope s_first_unlike) := ⟨rfl, rfl, rfl, by decide +kernel, rfl, by decide +kernel, by decide +kernel⟩
abbrev s_pairs_of : Stmt := topS 38
theorem sc_pairs_of : FnScope ["numbers", "found", "at", "one", "other"] ["numbers"] (defScope s_pairs_of) := ⟨rfl, rfl, rfl, by decide +kernel, rfl, by decide +kernel, by decide +kernel⟩
abbrev s_like_lists : Stmt := topS 35
theorem sc_like_lists : FnScope ["lines", "one", "at", "line"] ["lines"] (defScope s_like_lists) := ⟨rfl, rfl, rfl, by decide +kernel, rfl, by decide +kernel, by decide +kernel⟩
abbrev s_spread_of : Stmt := topS 39
theorem sc_spread_of : FnScope ["draft", "kind", "number", "lines", "some", "places", "one", "other"] ["draft", "kind", "number"] (defScope s_spread_of) := ⟨rfl, rfl, rfl, by decide +kernel, rfl, by decide +kernel, by decide +kernel⟩
abbrev s_spread : Stmt := topS 45
theorem sc_spread : FnScope ["draft", "shafts", "treadles", "kind", "number"] ["draft", "shafts", "treadles"] (defScope s_spread) := ⟨rfl, rfl, rfl, by decide +kernel, rfl, by decide +kernel, by decide +kernel⟩
abbrev s__law_pick : Stmt := topS 50
theorem sc__law_pick : FnScope ["pot", "some"] ["pot", "some"] (defScope s__law_pick) := ⟨rfl, rfl, rfl, by decide +kernel, rfl, by decide +kernel, by decide +kernel⟩
abbrev s__law_mixed : Stmt := topS 51
theorem sc__law_mixed : FnScope ["pot", "some", "left", "found"] ["pot", "some"] (defScope s__law_mixed) := ⟨rfl, rfl, rfl, by decide +kernel, rfl, by decide +kernel, by decide +kernel⟩
abbrev s__law_drawn : Stmt := topS 56
theorem sc__law_drawn : FnScope ["pot", "draft", "number", "kind", "lines", "some", "places", "one", "other", "unlike", "at", "late", "near", "row"] ["pot", "draft", "number"] (defScope s__law_drawn) := ⟨rfl, rfl, rfl, by decide +kernel, rfl, by decide +kernel, by decide +kernel⟩
abbrev s_numbered : Stmt := topS 28
theorem sc_numbered : FnScope ["values", "some", "one"] ["values"] (defScope s_numbered) := ⟨rfl, rfl, rfl, by decide +kernel, rfl, by decide +kernel, by decide +kernel⟩
abbrev s_told_loom : Stmt := topS 30
theorem sc_told_loom : FnScope ["draft", "columns", "rows", "firsts", "ties", "row", "one", "shaft", "warp"] ["draft"] (defScope s_told_loom) := ⟨rfl, rfl, rfl, by decide +kernel, rfl, by decide +kernel, by decide +kernel⟩
abbrev s_loom_of : Stmt := topS 32
theorem sc_loom_of : FnScope ["draft"] ["draft"] (defScope s_loom_of) := ⟨rfl, rfl, rfl, by decide +kernel, rfl, by decide +kernel, by decide +kernel⟩
abbrev s__law_looms : Stmt := topS 58
theorem sc__law_looms : FnScope ["pot", "loom", "draft", "at", "shaft", "lift", "late", "found", "one"] ["pot", "loom", "draft"] (defScope s__law_looms) := ⟨rfl, rfl, rfl, by decide +kernel, rfl, by decide +kernel, by decide +kernel⟩
abbrev s_are_rising : Stmt := topS 4
theorem sc_are_rising : FnScope ["values", "near", "far"] ["values"] (defScope s_are_rising) := ⟨rfl, rfl, rfl, by decide +kernel, rfl, by decide +kernel, by decide +kernel⟩
abbrev s_is_lot_of : Stmt := topS 5
theorem sc_is_lot_of : FnScope ["value", "many", "one"] ["value", "many"] (defScope s_is_lot_of) := ⟨rfl, rfl, rfl, by decide +kernel, rfl, by decide +kernel, by decide +kernel⟩
abbrev s_is_place_of : Stmt := topS 40
theorem sc_is_place_of : FnScope ["lines", "value", "pair", "one"] ["lines", "value", "pair"] (defScope s_is_place_of) := ⟨rfl, rfl, rfl, by decide +kernel, rfl, by decide +kernel, by decide +kernel⟩
abbrev s_is_spread : Stmt := topS 46
theorem sc_is_spread : FnScope ["draft", "shafts", "treadles", "value", "lines", "number", "pairs", "one", "pair"] ["draft", "shafts", "treadles", "value"] (defScope s_is_spread) := ⟨rfl, rfl, rfl, by decide +kernel, rfl, by decide +kernel, by decide +kernel⟩
abbrev s_plan_of : Stmt := topS 25
theorem sc_plan_of : FnScope ["loom", "treadle"] ["loom"] (defScope s_plan_of) := ⟨rfl, rfl, rfl, by decide +kernel, rfl, by decide +kernel, by decide +kernel⟩
abbrev s_woven_by : Stmt := topS 26
theorem sc_woven_by : FnScope ["loom", "lift", "shaft"] ["loom"] (defScope s_woven_by) := ⟨rfl, rfl, rfl, by decide +kernel, rfl, by decide +kernel, by decide +kernel⟩
abbrev s_are_numbers : Stmt := topS 21
theorem sc_are_numbers : FnScope ["value", "many", "one"] ["value", "many"] (defScope s_are_numbers) := ⟨rfl, rfl, rfl, by decide +kernel, rfl, by decide +kernel, by decide +kernel⟩
abbrev s_are_lifts : Stmt := topS 22
theorem sc_are_lifts : FnScope ["value", "shafts", "one"] ["value", "shafts"] (defScope s_are_lifts) := ⟨rfl, rfl, rfl, by decide +kernel, rfl, by decide +kernel, by decide +kernel⟩
abbrev s_is_loom_value : Stmt := topS 23
theorem sc_is_loom_value : FnScope ["value"] ["value"] (defScope s_is_loom_value) := ⟨rfl, rfl, rfl, by decide +kernel, rfl, by decide +kernel, by decide +kernel⟩
abbrev s_is_loom_within : Stmt := topS 44
theorem sc_is_loom_within : FnScope ["draft", "shafts", "treadles", "value"] ["draft", "shafts", "treadles", "value"] (defScope s_is_loom_within) := ⟨rfl, rfl, rfl, by decide +kernel, rfl, by decide +kernel, by decide +kernel⟩
abbrev s__law_bent : Stmt := topS 57
theorem sc__law_bent : FnScope ["pot", "value", "kind", "some", "places", "late", "bent", "more", "found", "at", "one", "other", "place", "odd", "row", "left"] ["pot", "value"] (defScope s__law_bent) := ⟨rfl, rfl, rfl, by decide +kernel, rfl, by decide +kernel, by decide +kernel⟩
abbrev s__law_is_whole : Stmt := topS 54
theorem sc__law_is_whole : FnScope ["value", "most"] ["value", "most"] (defScope s__law_is_whole) := ⟨rfl, rfl, rfl, by decide +kernel, rfl, by decide +kernel, by decide +kernel⟩
abbrev s__law_is_spread : Stmt := topS 55
theorem sc__law_is_spread : FnScope ["draft", "shafts", "treadles", "value", "lines", "number", "some", "places", "pairs", "one", "pair", "place", "at", "other", "row"] ["draft", "shafts", "treadles", "value"] (defScope s__law_is_spread) := ⟨rfl, rfl, rfl, by decide +kernel, rfl, by decide +kernel, by decide +kernel⟩
abbrev s_is_loom : Stmt := topS 31
theorem sc_is_loom : FnScope ["value"] ["value"] (defScope s_is_loom) := ⟨rfl, rfl, rfl, by decide +kernel, rfl, by decide +kernel, by decide +kernel⟩
abbrev s__law_right : Stmt := topS 59
theorem sc__law_right : FnScope ["pot", "loom", "draft", "many", "more", "turn", "shafts", "treadles", "told", "base", "late", "values", "value", "due", "shown", "named", "again"] ["pot"] (defScope s__law_right) := ⟨rfl, rfl, rfl, by decide +kernel, rfl, by decide +kernel, by decide +kernel⟩
abbrev s__law_pot : Stmt := topS 48
theorem sc__law_pot : FnScope ["script", "k", "cell"] ["script", "k"] (defScope s__law_pot) := ⟨rfl, rfl, rfl, by decide +kernel, rfl, by decide +kernel, by decide +kernel⟩
abbrev s_law : Stmt := topS 60
theorem sc_law : FnScope ["script", "k"] ["script"] (defScope s_law) := ⟨rfl, rfl, rfl, by decide +kernel, rfl, by decide +kernel, by decide +kernel⟩
abbrev k_LOOM : PyData := (.str "loom")
abbrev k_MOST : PyData := (.int 12)
abbrev k_WARP : PyData := (.str "warp")
abbrev k_WEFT : PyData := (.str "weft")
/-- what the module's names are -/
structure Md (K : PySem.W.Frag) (mg : Str → Option Value) : Prop where
  z_abs : mg "abs" = none
  z_all : mg "all" = none
  z_any : mg "any" = none
  z_bool : mg "bool" = none
  z_divmod : mg "divmod" = none
  z_enumerate : mg "enumerate" = none
  z_int : mg "int" = none
  z_isinstance : mg "isinstance" = none
  z_len : mg "len" = none
  z_list : mg "list" = none
  z_max : mg "max" = none
  z_min : mg "min" = none
  z_range : mg "range" = none
  z_repr : mg "repr" = none
  z_set : mg "set" = none
  z_sorted : mg "sorted" = none
  z_str : mg "str" = none
  z_tuple : mg "tuple" = none
  z_zip : mg "zip" = none
  c_LOOM : GK K mg "LOOM" (.str "loom") k_LOOM
  c_MOST : GK K mg "MOST" (.int 12) k_MOST
  c_WARP : GK K mg "WARP" (.str "warp") k_WARP
  c_WEFT : GK K mg "WEFT" (.str "weft") k_WEFT
/-! ### the mirrors -/
noncomputable def m__law_draw : Fn := defn 3 (sSeq (sIf (sTest (sBin dGt (sBin dIx (sVar 0) (sC (.int 0))) (sC (.int 0)))) (sSeq (sAsg (sTake (sCB dDivmod (sCons (sBin dIx (sVar 0) (sC (.int 0))) (sCons (sVar 1) sNil)))) (gsTup 2 (gsCons (gsSub 0 (sC (.int 0))) (gsCons (gsName 2) gsNil)))) (sRetVS (vD (sTake (sVar 2))))) sNext) (sSeq (sAsg (sTake (sBin dMod (sCB dInt (sCons (sBin dAdd (sBin dMulX (sBin dIx (sVar 0) (sC (.int 1))) (sC (.int 39373))) (sC (.int 1123))) sNil)) (sC (.int 2147483587)))) (gsSub 0 (sC (.int 1)))) (sRetVS (vD (sTake (sBin dMod (sCB dInt (sCons (sBin dDiv (sBin dMod (sCB dInt (sCons (sBin dMulX (sBin dIx (sVar 0) (sC (.int 1))) (sBin dIx (sVar 0) (sC (.int 1)))) sNil)) (sC (.int 2147483563))) (sC (.int 19))) sNil)) (sVar 1)))))))
noncomputable def m__law_loom : Fn := defn 11 (sSeq (sAsg (sTake (sTup (sCons (sBin dAdd (sC (.int 1)) (sCall 2 m__law_draw (sCons (sVar 0) (sCons (sVar 1) sNil)))) (sCons (sBin dAdd (sC (.int 1)) (sCall 2 m__law_draw (sCons (sVar 0) (sCons (sVar 1) sNil)))) sNil)))) (gsTup 2 (gsCons (gsName 2) (gsCons (gsName 3) gsNil)))) (sSeq (sSetV (vD (sTake (sCB dTuple (sCons (sKeep (sLC [7] (sArgI rngI (sCons (sBin dAdd (sC (.int 1)) (sCall 2 m__law_draw (sCons (sVar 0) (sCons (sBin dAdd (sVar 1) (sC (.int 2))) sNil)))) sNil)) (gsName 7) sYes (sTake (sCall 2 m__law_draw (sCons (sVar 0) (sCons (sVar 2) sNil)))))) sNil)))) 4) (sSeq (sSetV (vD (sTake (sCB dTuple (sCons (sKeep (sLC [8] (sArgI rngI (sCons (sVar 3) sNil)) (gsName 8) sYes (sTake (sCB dTuple (sCons (sKeep (sLC [10] (sArgI rngI (sCons (sVar 2) sNil)) (gsName 10) (sTest (sBin dEq (sCall 2 m__law_draw (sCons (sVar 0) (sCons (sC (.int 2)) sNil))) (sC (.int 0)))) (sTake (sVar 10)))) sNil))))) sNil)))) 5) (sSeq (sSetV (vD (sTake (sCB dTuple (sCons (sKeep (sLC [9] (sArgI rngI (sCons (sBin dAdd (sC (.int 1)) (sCall 2 m__law_draw (sCons (sVar 0) (sCons (sBin dAdd (sVar 1) (sC (.int 2))) sNil)))) sNil)) (gsName 9) sYes (sTake (sCall 2 m__law_draw (sCons (sVar 0) (sCons (sVar 3) sNil)))))) sNil)))) 6) (sRetVS (vD (sTake (sTup (sCons (sC (.str "loom")) (sCons (sVar 2) (sCons (sVar 4) (sCons (sVar 5) (sCons (sVar 6) sNil)))))))))))))
noncomputable def m__law_woven : Fn := defn 4 (sSeq (sSetV (vL (sLst sNil)) 1) (sSeq (sFor (sSeqI (sTake (sBin dIx (sVar 0) (sC (.int 4))))) (gsName 2) (sDrop (sMeth 1 mAppend (sCons (sCB dTuple (sCons (sKeep (sLC [3] (sSeqI (sTake (sBin dIx (sVar 0) (sC (.int 2))))) (gsName 3) sYes (sTake (sIf (sTest (sBin dIn (sVar 3) (sBin dIx (sBin dIx (sVar 0) (sC (.int 3))) (sVar 2)))) (sC (.int 1)) (sC (.int 0)))))) sNil)) sNil)))) (sRetVS (vD (sTake (sTup (sCons (sC (.str "draft")) (sCons (sCB dTuple (sCons (sVar 1) sNil)) sNil))))))))
noncomputable def m_is_tuple : Fn := defn 2 (sRetVS (vD (sTake (sAndV (sIsi .tuple (sVar 0)) (sBin dEq (sCB dLen (sCons (sVar 0) sNil)) (sVar 1))))))
noncomputable def m_is_headed : Fn := defn 2 (sRetVS (vD (sTake (sAndV (sCall 2 m_is_tuple (sCons (sVar 0) (sCons (sC (.int 2)) sNil))) (sAndV (sIsi .str (sBin dIx (sVar 0) (sC (.int 0)))) (sBin dEq (sBin dIx (sVar 0) (sC (.int 0))) (sVar 1)))))))
noncomputable def m_is_integer : Fn := defn 1 (sRetVS (vD (sTake (sAndV (sIsi .int (sVar 0)) (sNotV (sIsi .bool (sVar 0)))))))
noncomputable def m_is_within : Fn := defn 3 (sRetVS (vD (sTake (sAndV (sCall 1 m_is_integer (sCons (sVar 0) sNil)) (sChain dLe dLe (sVar 1) (sVar 0) (sVar 2))))))
noncomputable def m_are_rows_of : Fn := defn 4 (sSeq (sIf (sOr (sNot (sTest (sIsi .tuple (sVar 0)))) (sNot (sTest (sChain dLe dLe (sC (.int 1)) (sCB dLen (sCons (sVar 0) sNil)) (sC (.int 12)))))) (sRetVS (vD (sTake (sC (.bool false))))) sNext) (sSeq (sIf (sNot (sTest (sCB dAll (sCons (sKeep (sLC [2] (sSeqI (sTake (sVar 0))) (gsName 2) sYes (sTake (sIsi .tuple (sVar 2))))) sNil)))) (sRetVS (vD (sTake (sC (.bool false))))) sNext) (sSeq (sIf (sOr (sNot (sTest (sChain dLe dLe (sC (.int 1)) (sCB dLen (sCons (sBin dIx (sVar 0) (sC (.int 0))) sNil)) (sC (.int 12))))) (sTest (sCB dAny (sCons (sKeep (sLC [2] (sSeqI (sTake (sVar 0))) (gsName 2) sYes (sTake (sBin dNe (sCB dLen (sCons (sVar 2) sNil)) (sCB dLen (sCons (sBin dIx (sVar 0) (sC (.int 0))) sNil)))))) sNil)))) (sRetVS (vD (sTake (sC (.bool false))))) sNext) (sRetVS (vD (sTake (sCB dAll (sCons (sKeep (sLC [2] (sSeqI (sTake (sVar 0))) (gsName 2) sYes (sTake (sCB dAll (sCons (sKeep (sLC [3] (sSeqI (sTake (sVar 2))) (gsName 3) sYes (sTake (sCall 3 m_is_within (sCons (sVar 3) (sCons (sC (.int 0)) (sCons (sBin dSub (sVar 1) (sC (.int 1))) sNil))))))) sNil))))) sNil))))))))
noncomputable def m_is_draft_value : Fn := defn 1 (sRetVS (vD (sTake (sAndV (sCall 2 m_is_headed (sCons (sVar 0) (sCons (sC (.str "draft")) sNil))) (sCall 2 m_are_rows_of (sCons (sBin dIx (sVar 0) (sC (.int 1))) (sCons (sC (.int 2)) sNil)))))))
noncomputable def m_want_draft : Fn := defn 1 (sIf (sNot (sTest (sCall 1 m_is_draft_value (sCons (sVar 0) sNil)))) sNever sNext)
noncomputable def m_by_first : Fn := defn 3 (sSeq (sSetV (vL (sLst sNil)) 1) (sSeq (sFor (sSeqI (sTake (sVar 0))) (gsName 2) (sIf (sTest (sBin dNotIn (sVar 2) (sVar 1))) (sDrop (sMeth 1 mAppend (sCons (sVar 2) sNil))) sNext)) (sRetV 1)))
noncomputable def m_many_warps : Fn := defn 1 (sRetVS (vD (sTake (sCB dLen (sCons (sBin dIx (sBin dIx (sVar 0) (sC (.int 1))) (sC (.int 0))) sNil)))))
noncomputable def m_columns_of : Fn := defn 3 (sRetVS (vL (sLC [1] (sArgI rngI (sCons (sCall 1 m_many_warps (sCons (sVar 0) sNil)) sNil)) (gsName 1) sYes (sTake (sCB dTuple (sCons (sKeep (sLC [2] (sSeqI (sTake (sBin dIx (sVar 0) (sC (.int 1))))) (gsName 2) sYes (sTake (sBin dIx (sVar 2) (sVar 1))))) sNil))))))
noncomputable def m_lines_of : Fn := defn 2 (sRetVS (vD (sTake (sIf (sTest (sBin dEq (sVar 1) (sC (.str "warp")))) (sCall 1 m_columns_of (sCons (sVar 0) sNil)) (sKeep (sCBL dListL (sCons (sBin dIx (sVar 0) (sC (.int 1))) sNil)))))))
noncomputable def m_many_unlike : Fn := defn 2 (sRetVS (vD (sTake (sCB dLen (sCons (sCall 1 m_by_first (sCons (sCall 2 m_lines_of (sCons (sVar 0) (sCons (sVar 1) sNil))) sNil)) sNil)))))
noncomputable def m_fewest_shafts : Fn := defn 1 (sSeq (sDrop (sCall 1 m_want_draft (sCons (sVar 0) sNil))) (sRetVS (vD (sTake (sCall 2 m_many_unlike (sCons (sVar 0) (sCons (sC (.str "warp")) sNil)))))))
noncomputable def m_fewest_treadles : Fn := defn 1 (sSeq (sDrop (sCall 1 m_want_draft (sCons (sVar 0) sNil))) (sRetVS (vD (sTake (sCall 2 m_many_unlike (sCons (sVar 0) (sCons (sC (.str "weft")) sNil)))))))
noncomputable def m_want_most : Fn := defn 1 (sIf (sNot (sTest (sCall 3 m_is_within (sCons (sVar 0) (sCons (sC (.int 1)) (sCons (sC (.int 12)) sNil)))))) sNever sNext)
noncomputable def m_want_numbers : Fn := defn 3 (sSeq (sDrop (sCall 1 m_want_draft (sCons (sVar 0) sNil))) (sSeq (sDrop (sCall 1 m_want_most (sCons (sVar 1) sNil))) (sDrop (sCall 1 m_want_most (sCons (sVar 2) sNil)))))
noncomputable def m_first_unlike : Fn := defn 5 (sRetVS (vD (sTake (sIndex (sKeep (sLC [3, 4] (sArgI zipI (sCons (sBin dIx (sVar 0) (sVar 1)) (sCons (sBin dIx (sVar 0) (sVar 2)) sNil))) (gsTup 2 (gsCons (gsName 3) (gsCons (gsName 4) gsNil))) sYes (sTake (sBin dEq (sVar 3) (sVar 4))))) (sC (.bool false))))))
noncomputable def m_pairs_of : Fn := defn 5 (sSeq (sSetV (vL (sLst sNil)) 1) (sSeq (sFor (sArgI enumI (sCons (sVar 0) sNil)) (gsTup 2 (gsCons (gsName 2) (gsCons (gsName 3) gsNil))) (sDrop (sMeth 1 mExtend (sCons (sKeep (sLC [4] (sSeqI (sTake (sSlice (sVar 0) (sPart (sBin dAdd (sVar 2) (sC (.int 1)))) sNoPart))) (gsName 4) sYes (sTake (sTup (sCons (sVar 3) (sCons (sVar 4) sNil)))))) sNil)))) (sRetV 1)))
noncomputable def m_like_lists : Fn := defn 4 (sRetVS (vL (sLC [1] (sSeqI (sTake (sCall 1 m_by_first (sCons (sVar 0) sNil)))) (gsName 1) sYes (sTake (sKeep (sLC [2, 3] (sArgI enumI (sCons (sVar 0) sNil)) (gsTup 2 (gsCons (gsName 2) (gsCons (gsName 3) gsNil))) (sTest (sBin dEq (sVar 3) (sVar 1))) (sTake (sVar 2))))))))
noncomputable def m_spread_of : Fn := defn 8 (sSeq (sSetV (vD (sTake (sCall 2 m_lines_of (sCons (sVar 0) (sCons (sVar 1) sNil))))) 3) (sSeq (sSetV (vD (sTake (sSlice (sKeep (sLC [6] (sSeqI (sTake (sCall 1 m_like_lists (sCons (sVar 3) sNil)))) (gsName 6) sYes (sTake (sBin dIx (sVar 6) (sC (.int 0)))))) sNoPart (sPart (sBin dAdd (sVar 2) (sC (.int 1))))))) 4) (sSeq (sSetV (vLC true (sLC [6, 7] (sSeqI (sTake (sCall 1 m_pairs_of (sCons (sVar 4) sNil)))) (gsTup 2 (gsCons (gsName 6) (gsCons (gsName 7) gsNil))) sYes (sTake (sTup (sCons (sVar 6) (sCons (sVar 7) (sCons (sCall 3 m_first_unlike (sCons (sVar 3) (sCons (sVar 6) (sCons (sVar 7) sNil)))) sNil))))))) 5) (sRetVS (vD (sTake (sTup (sCons (sVar 1) (sCons (sCB dTuple (sCons (sVar 4) sNil)) (sCons (sCB dTuple (sCons (sVar 5) sNil)) sNil))))))))))
noncomputable def m_spread : Fn := defn 5 (sSeq (sDrop (sCall 3 m_want_numbers (sCons (sVar 0) (sCons (sVar 1) (sCons (sVar 2) sNil))))) (sSeq (sFor (sSeqI (sTake (sTup (sCons (sTup (sCons (sC (.str "warp")) (sCons (sVar 1) sNil))) (sCons (sTup (sCons (sC (.str "weft")) (sCons (sVar 2) sNil))) sNil))))) (gsTup 2 (gsCons (gsName 3) (gsCons (gsName 4) gsNil))) (sIf (sTest (sBin dGt (sCall 2 m_many_unlike (sCons (sVar 0) (sCons (sVar 3) sNil))) (sVar 4))) (sRetVS (vD (sTake (sCall 3 m_spread_of (sCons (sVar 0) (sCons (sVar 3) (sCons (sVar 4) sNil))))))) sNext)) (sRetVS (vD (sTake (sC .none))))))
noncomputable def m__law_pick : Fn := defn 2 (sRetVS (vD (sTake (sBin dIx (sVar 1) (sCall 2 m__law_draw (sCons (sVar 0) (sCons (sCB dLen (sCons (sVar 1) sNil)) sNil)))))))
noncomputable def m__law_mixed : Fn := defn 4 (sSeq (sPar 2 3 (vL (sCBL dListL (sCons (sVar 1) sNil))) (vL (sLst sNil))) (sSeq (sWhile 100000 (sTest (sBin dNe (sVar 2) (sKeep (sLst sNil)))) (sDrop (sMeth 3 mAppend (sCons (sMeth 2 mPopAt (sCons (sCall 2 m__law_draw (sCons (sVar 0) (sCons (sCB dLen (sCons (sVar 2) sNil)) sNil))) sNil)) sNil)))) (sRetV 3)))
noncomputable def m__law_drawn : Fn := defn 14 (sSeq (sSetV (vD (sTake (sCall 2 m__law_pick (sCons (sVar 0) (sCons (sKeep (sLst (sCons (sC (.str "warp")) (sCons (sC (.str "weft")) sNil)))) sNil))))) 3) (sSeq (sSetV (vD (sTake (sKeep (sCBL dListL (sCons (sBin dIx (sVar 1) (sC (.int 1))) sNil))))) 4) (sSeq (sIf (sTest (sBin dEq (sVar 3) (sC (.str "warp")))) (sSetV (vD (sTake (sKeep (sLC [10] (sArgI rngI (sCons (sCB dLen (sCons (sBin dIx (sBin dIx (sVar 1) (sC (.int 1))) (sC (.int 0))) sNil)) sNil)) (gsName 10) sYes (sTake (sCB dTuple (sCons (sKeep (sLC [13] (sSeqI (sTake (sBin dIx (sVar 1) (sC (.int 1))))) (gsName 13) sYes (sTake (sBin dIx (sVar 13) (sVar 10))))) sNil))))))) 4) sNext) (sSeq (sSetV (vD (sTake (sKeep (sCBL dSortedL (sCons (sSlice (sCall 2 m__law_mixed (sCons (sVar 0) (sCons (sKeep (sLstRg (sRg1 (sCB dLen (sCons (sVar 4) sNil))))) sNil))) sNoPart (sPart (sBin dAdd (sVar 2) (sC (.int 1))))) sNil))))) 5) (sSeq (sSetV (vL (sLst sNil)) 6) (sSeq (sFor (sSeqI (sTake (sVar 5))) (gsName 7) (sFor (sSeqI (sTake (sKeep (sLC [11] (sSeqI (sTake (sVar 5))) (gsName 11) (sTest (sBin dGt (sVar 11) (sVar 7))) (sTake (sVar 11)))))) (gsName 8) (sSeq (sSetV (vLC true (sLC [10, 12] (sArgI enumI (sCons (sBin dIx (sVar 4) (sVar 7)) sNil)) (gsTup 2 (gsCons (gsName 10) (gsCons (gsName 12) gsNil))) (sTest (sBin dNe (sVar 12) (sBin dIx (sBin dIx (sVar 4) (sVar 8)) (sVar 10)))) (sTake (sVar 10)))) 9) (sDrop (sMeth 6 mAppend (sCons (sTup (sCons (sVar 7) (sCons (sVar 8) (sCons (sCall 2 m__law_pick (sCons (sVar 0) (sCons (sIf (sTest (sBin dNe (sVar 9) (sKeep (sLst sNil)))) (sVar 9) (sKeep (sLst (sCons (sC (.int 0)) sNil)))) sNil))) sNil)))) sNil)))))) (sRetVS (vD (sTake (sTup (sCons (sVar 3) (sCons (sCB dTuple (sCons (sVar 5) sNil)) (sCons (sCB dTuple (sCons (sVar 6) sNil)) sNil)))))))))))))
noncomputable def m_numbered : Fn := defn 3 (sSeq (sSetV (vD (sTake (sCall 1 m_by_first (sCons (sVar 0) sNil)))) 1) (sRetVS (vD (sTake (sCB dTuple (sCons (sKeep (sLC [2] (sSeqI (sTake (sVar 0))) (gsName 2) sYes (sTake (sIndex (sVar 1) (sVar 2))))) sNil))))))
noncomputable def m_told_loom : Fn := defn 9 (sSeq (sAsg (sTake (sTup (sCons (sCall 1 m_columns_of (sCons (sVar 0) sNil)) (sCons (sKeep (sCBL dListL (sCons (sBin dIx (sVar 0) (sC (.int 1))) sNil))) sNil)))) (gsTup 2 (gsCons (gsName 1) (gsCons (gsName 2) gsNil)))) (sSeq (sSetV (vLC true (sLC [6] (sSeqI (sTake (sCall 1 m_by_first (sCons (sVar 1) sNil)))) (gsName 6) sYes (sTake (sIndex (sVar 1) (sVar 6))))) 3) (sSeq (sSetV (vL (sLst sNil)) 4) (sSeq (sFor (sSeqI (sTake (sCall 1 m_by_first (sCons (sVar 2) sNil)))) (gsName 5) (sDrop (sMeth 4 mAppend (sCons (sCB dTuple (sCons (sKeep (sLC [7, 8] (sArgI enumI (sCons (sVar 3) sNil)) (gsTup 2 (gsCons (gsName 7) (gsCons (gsName 8) gsNil))) (sTest (sBin dEq (sBin dIx (sVar 5) (sVar 8)) (sC (.int 1)))) (sTake (sVar 7)))) sNil)) sNil)))) (sRetVS (vD (sTake (sTup (sCons (sC (.str "loom")) (sCons (sCB dLen (sCons (sVar 3) sNil)) (sCons (sCall 1 m_numbered (sCons (sVar 1) sNil)) (sCons (sCB dTuple (sCons (sVar 4) sNil)) (sCons (sCall 1 m_numbered (sCons (sVar 2) sNil)) sNil)))))))))))))
noncomputable def m_loom_of : Fn := defn 1 (sSeq (sDrop (sCall 1 m_want_draft (sCons (sVar 0) sNil))) (sRetVS (vD (sTake (sCall 1 m_told_loom (sCons (sVar 0) sNil))))))
noncomputable def m__law_looms : Fn := defn 9 (sSeq (sSetV (vD (sTake (sCall 2 m__law_draw (sCons (sVar 0) (sCons (sCB dLen (sCons (sBin dIx (sVar 1) (sC (.int 3))) sNil)) sNil))))) 3) (sSeq (sSetV (vD (sTake (sCall 2 m__law_draw (sCons (sVar 0) (sCons (sBin dIx (sVar 1) (sC (.int 1))) sNil))))) 4) (sSeq (sSetV (vD (sTake (sBin dIx (sBin dIx (sVar 1) (sC (.int 3))) (sVar 3)))) 5) (sSeq (sSetV (vD (sTake (sIf (sTest (sBin dNotIn (sVar 4) (sVar 5))) (sCB dTuple (sCons (sKeep (sCBL dSortedL (sCons (sBin dAdd (sVar 5) (sTup (sCons (sVar 4) sNil))) sNil))) sNil)) (sCB dTuple (sCons (sKeep (sLC [8] (sSeqI (sTake (sVar 5))) (gsName 8) (sTest (sBin dNe (sVar 8) (sVar 4))) (sTake (sVar 8)))) sNil))))) 6) (sSeq (sSetV (vD (sTake (sKeep (sLst (sCons (sVar 1) (sCons (sCall 1 m_loom_of (sCons (sVar 2) sNil)) (sCons (sBin dAdd (sBin dAdd (sSlice (sVar 1) sNoPart (sPart (sC (.int 3)))) (sTup (sCons (sBin dAdd (sBin dAdd (sSlice (sBin dIx (sVar 1) (sC (.int 3))) sNoPart (sPart (sVar 3))) (sTup (sCons (sVar 6) sNil))) (sSlice (sBin dIx (sVar 1) (sC (.int 3))) (sPart (sBin dAdd (sVar 3) (sC (.int 1)))) sNoPart)) sNil))) (sSlice (sVar 1) (sPart (sC (.int 4))) sNoPart)) (sCons (sKeep (sCBL dListL (sCons (sVar 1) sNil))) sNil)))))))) 7) (sSeq (sSetV (vD (sTake (sBin dAdd (sVar 7) (sKeep (sLst (sCons (sC .none) (sCons (sVar 2) (sCons (sBin dAdd (sBin dAdd (sSlice (sVar 1) sNoPart (sPart (sC (.int 1)))) (sTup (sCons (sBin dAdd (sBin dIx (sVar 1) (sC (.int 1))) (sC (.int 1))) sNil))) (sSlice (sVar 1) (sPart (sC (.int 2))) sNoPart)) (sCons (sSlice (sVar 1) sNoPart (sPart (sC (.int 4)))) (sCons (sTup sNil) (sCons (sC (.int 0)) sNil))))))))))) 7) (sRetVS (vD (sTake (sBin dAdd (sVar 7) (sKeep (sLst (sCons (sBin dAdd (sBin dAdd (sSlice (sVar 1) sNoPart (sPart (sC (.int 3)))) (sTup (sCons (sBin dAdd (sBin dIx (sVar 1) (sC (.int 3))) (sTup (sCons (sVar 5) sNil))) sNil))) (sSlice (sVar 1) (sPart (sC (.int 4))) sNoPart)) (sCons (sBin dAdd (sBin dAdd (sSlice (sVar 1) sNoPart (sPart (sC (.int 2)))) (sTup (sCons (sUn dRev (sBin dIx (sVar 1) (sC (.int 2)))) sNil))) (sSlice (sVar 1) (sPart (sC (.int 3))) sNoPart)) sNil))))))))))))))
noncomputable def m_are_rising : Fn := defn 3 (sRetVS (vD (sTake (sCB dAll (sCons (sKeep (sLC [1, 2] (sArgI zipI (sCons (sVar 0) (sCons (sSlice (sVar 0) (sPart (sC (.int 1))) sNoPart) sNil))) (gsTup 2 (gsCons (gsName 1) (gsCons (gsName 2) gsNil))) sYes (sTake (sBin dLt (sVar 1) (sVar 2))))) sNil)))))
noncomputable def m_is_lot_of : Fn := defn 3 (sRetVS (vD (sTake (sAndV (sIsi .tuple (sVar 0)) (sAndV (sCB dAll (sCons (sKeep (sLC [2] (sSeqI (sTake (sVar 0))) (gsName 2) sYes (sTake (sCall 3 m_is_within (sCons (sVar 2) (sCons (sC (.int 0)) (sCons (sBin dSub (sVar 1) (sC (.int 1))) sNil))))))) sNil)) (sCall 1 m_are_rising (sCons (sVar 0) sNil)))))))
noncomputable def m_is_place_of : Fn := defn 4 (sSeq (sIf (sOr (sNot (sTest (sCall 2 m_is_tuple (sCons (sVar 1) (sCons (sC (.int 3)) sNil))))) (sNot (sTest (sCall 3 m_is_within (sCons (sBin dIx (sVar 1) (sC (.int 2))) (sCons (sC (.int 0)) (sCons (sBin dSub (sCB dLen (sCons (sBin dIx (sVar 0) (sC (.int 0))) sNil)) (sC (.int 1))) sNil))))))) (sRetVS (vD (sTake (sC (.bool false))))) sNext) (sSeq (sIf (sOr (sNot (sTest (sCB dAll (sCons (sKeep (sLC [3] (sSeqI (sTake (sSlice (sVar 1) sNoPart (sPart (sC (.int 2)))))) (gsName 3) sYes (sTake (sCall 3 m_is_within (sCons (sVar 3) (sCons (sC (.int 0)) (sCons (sBin dSub (sCB dLen (sCons (sVar 0) sNil)) (sC (.int 1))) sNil))))))) sNil)))) (sTest (sBin dNe (sSlice (sVar 1) sNoPart (sPart (sC (.int 2)))) (sVar 2)))) (sRetVS (vD (sTake (sC (.bool false))))) sNext) (sRetVS (vD (sTake (sBin dNe (sBin dIx (sBin dIx (sVar 0) (sBin dIx (sVar 2) (sC (.int 0)))) (sBin dIx (sVar 1) (sC (.int 2)))) (sBin dIx (sBin dIx (sVar 0) (sBin dIx (sVar 2) (sC (.int 1)))) (sBin dIx (sVar 1) (sC (.int 2))))))))))
noncomputable def m_is_spread : Fn := defn 9 (sSeq (sDrop (sCall 3 m_want_numbers (sCons (sVar 0) (sCons (sVar 1) (sCons (sVar 2) sNil))))) (sSeq (sIf (sOr (sNot (sTest (sCall 2 m_is_tuple (sCons (sVar 3) (sCons (sC (.int 3)) sNil))))) (sOr (sNot (sTest (sIsi .str (sBin dIx (sVar 3) (sC (.int 0)))))) (sTest (sBin dNotIn (sBin dIx (sVar 3) (sC (.int 0))) (sTup (sCons (sC (.str "warp")) (sCons (sC (.str "weft")) sNil))))))) (sRetVS (vD (sTake (sC (.bool false))))) sNext) (sSeq (sAsg (sTake (sTup (sCons (sCall 2 m_lines_of (sCons (sVar 0) (sCons (sBin dIx (sVar 3) (sC (.int 0))) sNil))) (sCons (sIf (sTest (sBin dEq (sBin dIx (sVar 3) (sC (.int 0))) (sC (.str "warp")))) (sVar 1) (sVar 2)) sNil)))) (gsTup 2 (gsCons (gsName 4) (gsCons (gsName 5) gsNil)))) (sSeq (sIf (sOr (sNot (sTest (sCall 2 m_is_lot_of (sCons (sBin dIx (sVar 3) (sC (.int 1))) (sCons (sCB dLen (sCons (sVar 4) sNil)) sNil))))) (sTest (sBin dLe (sCB dLen (sCons (sBin dIx (sVar 3) (sC (.int 1))) sNil)) (sVar 5)))) (sRetVS (vD (sTake (sC (.bool false))))) sNext) (sSeq (sSetV (vD (sTake (sCall 1 m_pairs_of (sCons (sKeep (sCBL dListL (sCons (sBin dIx (sVar 3) (sC (.int 1))) sNil))) sNil)))) 6) (sSeq (sIf (sNot (sTest (sCall 2 m_is_tuple (sCons (sBin dIx (sVar 3) (sC (.int 2))) (sCons (sCB dLen (sCons (sVar 6) sNil)) sNil))))) (sRetVS (vD (sTake (sC (.bool false))))) sNext) (sRetVS (vD (sTake (sCB dAll (sCons (sKeep (sLC [7, 8] (sArgI zipI (sCons (sBin dIx (sVar 3) (sC (.int 2))) (sCons (sVar 6) sNil))) (gsTup 2 (gsCons (gsName 7) (gsCons (gsName 8) gsNil))) sYes (sTake (sCall 3 m_is_place_of (sCons (sVar 4) (sCons (sVar 7) (sCons (sVar 8) sNil))))))) sNil)))))))))))
noncomputable def m_plan_of : Fn := defn 2 (sRetVS (vD (sTake (sCB dTuple (sCons (sKeep (sLC [1] (sSeqI (sTake (sBin dIx (sVar 0) (sC (.int 4))))) (gsName 1) sYes (sTake (sBin dIx (sBin dIx (sVar 0) (sC (.int 3))) (sVar 1))))) sNil)))))
noncomputable def m_woven_by : Fn := defn 3 (sRetVS (vD (sTake (sTup (sCons (sC (.str "draft")) (sCons (sCB dTuple (sCons (sKeep (sLC [1] (sSeqI (sTake (sCall 1 m_plan_of (sCons (sVar 0) sNil)))) (gsName 1) sYes (sTake (sCB dTuple (sCons (sKeep (sLC [2] (sSeqI (sTake (sBin dIx (sVar 0) (sC (.int 2))))) (gsName 2) sYes (sTake (sCB dInt (sCons (sBin dIn (sVar 2) (sVar 1)) sNil))))) sNil))))) sNil)) sNil))))))
noncomputable def m_are_numbers : Fn := defn 3 (sSeq (sIf (sOr (sNot (sTest (sIsi .tuple (sVar 0)))) (sNot (sTest (sChain dLe dLe (sC (.int 1)) (sCB dLen (sCons (sVar 0) sNil)) (sC (.int 12)))))) (sRetVS (vD (sTake (sC (.bool false))))) sNext) (sRetVS (vD (sTake (sCB dAll (sCons (sKeep (sLC [2] (sSeqI (sTake (sVar 0))) (gsName 2) sYes (sTake (sCall 3 m_is_within (sCons (sVar 2) (sCons (sC (.int 0)) (sCons (sBin dSub (sVar 1) (sC (.int 1))) sNil))))))) sNil))))))
noncomputable def m_are_lifts : Fn := defn 3 (sRetVS (vD (sTake (sAndV (sIsi .tuple (sVar 0)) (sAndV (sChain dLe dLe (sC (.int 1)) (sCB dLen (sCons (sVar 0) sNil)) (sC (.int 12))) (sCB dAll (sCons (sKeep (sLC [2] (sSeqI (sTake (sVar 0))) (gsName 2) sYes (sTake (sCall 2 m_is_lot_of (sCons (sVar 2) (sCons (sVar 1) sNil)))))) sNil)))))))
noncomputable def m_is_loom_value : Fn := defn 1 (sSeq (sIf (sOr (sNot (sTest (sCall 2 m_is_tuple (sCons (sVar 0) (sCons (sC (.int 5)) sNil))))) (sOr (sNot (sTest (sIsi .str (sBin dIx (sVar 0) (sC (.int 0)))))) (sTest (sBin dNe (sBin dIx (sVar 0) (sC (.int 0))) (sC (.str "loom")))))) (sRetVS (vD (sTake (sC (.bool false))))) sNext) (sSeq (sIf (sNot (sTest (sCall 3 m_is_within (sCons (sBin dIx (sVar 0) (sC (.int 1))) (sCons (sC (.int 1)) (sCons (sC (.int 12)) sNil)))))) (sRetVS (vD (sTake (sC (.bool false))))) sNext) (sSeq (sIf (sOr (sNot (sTest (sCall 2 m_are_numbers (sCons (sBin dIx (sVar 0) (sC (.int 2))) (sCons (sBin dIx (sVar 0) (sC (.int 1))) sNil))))) (sNot (sTest (sCall 2 m_are_lifts (sCons (sBin dIx (sVar 0) (sC (.int 3))) (sCons (sBin dIx (sVar 0) (sC (.int 1))) sNil)))))) (sRetVS (vD (sTake (sC (.bool false))))) sNext) (sRetVS (vD (sTake (sCall 2 m_are_numbers (sCons (sBin dIx (sVar 0) (sC (.int 4))) (sCons (sCB dLen (sCons (sBin dIx (sVar 0) (sC (.int 3))) sNil)) sNil)))))))))
noncomputable def m_is_loom_within : Fn := defn 4 (sSeq (sDrop (sCall 3 m_want_numbers (sCons (sVar 0) (sCons (sVar 1) (sCons (sVar 2) sNil))))) (sSeq (sIf (sOr (sNot (sTest (sCall 1 m_is_loom_value (sCons (sVar 3) sNil)))) (sOr (sTest (sBin dGt (sBin dIx (sVar 3) (sC (.int 1))) (sVar 1))) (sTest (sBin dGt (sCB dLen (sCons (sBin dIx (sVar 3) (sC (.int 3))) sNil)) (sVar 2))))) (sRetVS (vD (sTake (sC (.bool false))))) sNext) (sRetVS (vD (sTake (sBin dEq (sCall 1 m_woven_by (sCons (sVar 3) sNil)) (sVar 0)))))))
noncomputable def m__law_bent : Fn := defn 16 (sSeq (sAsg (sTake (sVar 1)) (gsTup 3 (gsCons (gsName 2) (gsCons (gsName 3) (gsCons (gsName 4) gsNil))))) (sSeq (sIf (sOr (sTest (sBin dEq (sCB dLen (sCons (sVar 4) sNil)) (sC (.int 0)))) (sTest (sBin dEq (sCall 2 m__law_draw (sCons (sVar 0) (sCons (sC (.int 4)) sNil))) (sC (.int 0))))) (sSeq (sSetV (vD (sTake (sCall 2 m__law_pick (sCons (sVar 0) (sCons (sKeep (sLst (sCons (sC (.str "warp")) (sCons (sC (.str "weft")) (sCons (sC (.str "Warp")) (sCons (sC .none) (sCons (sC (.int 0)) sNil))))))) sNil))))) 5) (sSeq (sSetV (vD (sTake (sKeep (sLst (sCons (sSlice (sVar 3) (sPart (sC (.int 1))) sNoPart) (sCons (sBin dAdd (sVar 3) (sTup (sCons (sC (.int 11)) sNil))) (sCons (sUn dRev (sVar 3)) (sCons (sKeep (sCBL dListL (sCons (sVar 3) sNil))) (sCons (sBin dAdd (sVar 3) (sSlice (sVar 3) sNoPart (sPart (sC (.int 1))))) (sCons (sTup sNil) (sCons (sBin dAdd (sTup (sCons (sC (.bool true)) sNil)) (sSlice (sVar 3) (sPart (sC (.int 1))) sNoPart)) sNil))))))))))) 6) (sSeq (sSetV (vD (sTake (sCall 2 m__law_pick (sCons (sVar 0) (sCons (sVar 6) sNil))))) 7) (sSeq (sSetV (vD (sTake (sKeep (sLst (sCons (sTup (sCons (sVar 5) (sCons (sVar 3) (sCons (sVar 4) sNil)))) (sCons (sTup (sCons (sVar 2) (sCons (sVar 7) (sCons (sVar 4) sNil)))) (sCons (sTup (sCons (sVar 2) (sCons (sC .none) (sCons (sVar 4) sNil)))) (sCons (sTup (sCons (sVar 2) (sCons (sVar 3) (sCons (sKeep (sCBL dListL (sCons (sVar 4) sNil))) sNil)))) sNil)))))))) 8) (sRetVS (vD (sTake (sCall 2 m__law_pick (sCons (sVar 0) (sCons (sBin dAdd (sVar 8) (sKeep (sLst (sCons (sSlice (sVar 1) sNoPart (sPart (sC (.int 2)))) (sCons (sKeep (sCBL dListL (sCons (sVar 1) sNil))) (sCons (sC .none) sNil)))))) sNil)))))))))) sNext) (sSeq (sSetV (vD (sTake (sCall 2 m__law_draw (sCons (sVar 0) (sCons (sCB dLen (sCons (sVar 4) sNil)) sNil))))) 9) (sSeq (sAsg (sTake (sBin dIx (sVar 4) (sVar 9))) (gsTup 3 (gsCons (gsName 10) (gsCons (gsName 11) (gsCons (gsName 12) gsNil))))) (sSeq (sSetV (vD (sTake (sCall 2 m__law_pick (sCons (sVar 0) (sCons (sKeep (sLst (sCons (sC .none) (sCons (sC (.bool true)) (sCons (sUn dNeg (sC (.int 1))) (sCons (sC (.int 99)) (sCons (sC (.int 0)) (sCons (sC (.int 1)) (sCons (sC (.int 2)) (sCons (sC (.int 3)) (sCons (sC (.str "0")) sNil))))))))))) sNil))))) 13) (sSeq (sSetV (vD (sTake (sKeep (sLst (sCons (sTup (sCons (sVar 10) (sCons (sVar 11) (sCons (sVar 13) sNil)))) (sCons (sTup (sCons (sVar 10) (sCons (sVar 11) (sCons (sVar 13) sNil)))) (sCons (sTup (sCons (sVar 11) (sCons (sVar 10) (sCons (sVar 12) sNil)))) (sCons (sTup (sCons (sVar 10) (sCons (sVar 13) (sCons (sVar 12) sNil)))) (sCons (sTup (sCons (sVar 10) (sCons (sVar 11) sNil))) (sCons (sC .none) sNil)))))))))) 6) (sSeq (sSetV (vD (sTake (sBin dAdd (sBin dAdd (sSlice (sVar 4) sNoPart (sPart (sVar 9))) (sTup (sCons (sCall 2 m__law_pick (sCons (sVar 0) (sCons (sVar 6) sNil))) sNil))) (sSlice (sVar 4) (sPart (sBin dAdd (sVar 9) (sC (.int 1)))) sNoPart)))) 14) (sSeq (sSetV (vD (sTake (sCall 2 m__law_pick (sCons (sVar 0) (sCons (sKeep (sLst (sCons (sBin dAdd (sSlice (sVar 4) sNoPart (sPart (sVar 9))) (sSlice (sVar 4) (sPart (sBin dAdd (sVar 9) (sC (.int 1)))) sNoPart)) (sCons (sBin dAdd (sVar 4) (sSlice (sVar 4) sNoPart (sPart (sC (.int 1))))) (sCons (sUn dRev (sVar 4)) (sCons (sTup sNil) sNil)))))) sNil))))) 15) (sRetVS (vD (sTake (sTup (sCons (sVar 2) (sCons (sVar 3) (sCons (sCall 2 m__law_pick (sCons (sVar 0) (sCons (sKeep (sLst (sCons (sVar 14) (sCons (sVar 14) (sCons (sVar 15) sNil))))) sNil))) sNil)))))))))))))))
noncomputable def m__law_is_whole : Fn := defn 2 (sRetVS (vD (sTake (sAndV (sIsi .int (sVar 0)) (sAndV (sNotV (sIsi .bool (sVar 0))) (sChain dLe dLt (sC (.int 0)) (sVar 0) (sVar 1)))))))
noncomputable def m__law_is_spread : Fn := defn 15 (sSeq (sIf (sOr (sNot (sTest (sIsi .tuple (sVar 3)))) (sOr (sTest (sBin dNe (sCB dLen (sCons (sVar 3) sNil)) (sC (.int 3)))) (sTest (sBin dNotIn (sCB dRepr (sCons (sBin dIx (sVar 3) (sC (.int 0))) sNil)) (sTup (sCons (sC (.str "'warp'")) (sCons (sC (.str "'weft'")) sNil))))))) (sRetVS (vD (sTake (sC (.bool false))))) sNext) (sSeq (sAsg (sTake (sTup (sCons (sKeep (sCBL dListL (sCons (sBin dIx (sVar 0) (sC (.int 1))) sNil))) (sCons (sVar 2) sNil)))) (gsTup 2 (gsCons (gsName 4) (gsCons (gsName 5) gsNil)))) (sSeq (sIf (sTest (sBin dEq (sBin dIx (sVar 3) (sC (.int 0))) (sC (.str "warp")))) (sAsg (sTake (sTup (sCons (sKeep (sLC [12] (sArgI rngI (sCons (sCB dLen (sCons (sBin dIx (sBin dIx (sVar 0) (sC (.int 1))) (sC (.int 0))) sNil)) sNil)) (gsName 12) sYes (sTake (sCB dTuple (sCons (sKeep (sLC [14] (sSeqI (sTake (sBin dIx (sVar 0) (sC (.int 1))))) (gsName 14) sYes (sTake (sBin dIx (sVar 14) (sVar 12))))) sNil))))) (sCons (sVar 1) sNil)))) (gsTup 2 (gsCons (gsName 4) (gsCons (gsName 5) gsNil)))) sNext) (sSeq (sPar 6 7 (vD (sTake (sBin dIx (sVar 3) (sC (.int 1))))) (vD (sTake (sBin dIx (sVar 3) (sC (.int 2)))))) (sSeq (sIf (sOr (sNot (sTest (sIsi .tuple (sVar 6)))) (sOr (sNot (sTest (sIsi .tuple (sVar 7)))) (sTest (sBin dLe (sCB dLen (sCons (sVar 6) sNil)) (sVar 5))))) (sRetVS (vD (sTake (sC (.bool false))))) sNext) (sSeq (sIf (sOr (sNot (sTest (sCB dAll (sCons (sKeep (sLC [9] (sSeqI (sTake (sVar 6))) (gsName 9) sYes (sTake (sCall 2 m__law_is_whole (sCons (sVar 9) (sCons (sCB dLen (sCons (sVar 4) sNil)) sNil)))))) sNil)))) (sTest (sBin dNe (sKeep (sCBL dListL (sCons (sVar 6) sNil))) (sKeep (sCBL dSetL (sCons (sVar 6) sNil)))))) (sRetVS (vD (sTake (sC (.bool false))))) sNext) (sSeq (sSetV (vL (sLst sNil)) 8) (sSeq (sFor (sSeqI (sTake (sVar 6))) (gsName 9) (sDrop (sMeth 8 mExtend (sCons (sKeep (sLC [13] (sSeqI (sTake (sVar 6))) (gsName 13) (sTest (sBin dGt (sVar 13) (sVar 9))) (sTake (sTup (sCons (sVar 9) (sCons (sVar 13) sNil)))))) sNil)))) (sSeq (sIf (sOr (sTest (sBin dNe (sCB dLen (sCons (sVar 7) sNil)) (sCB dLen (sCons (sVar 8) sNil)))) (sNot (sTest (sCB dAll (sCons (sKeep (sLC [9] (sSeqI (sTake (sVar 7))) (gsName 9) sYes (sTake (sAndV (sIsi .tuple (sVar 9)) (sBin dEq (sCB dLen (sCons (sVar 9) sNil)) (sC (.int 3))))))) sNil))))) (sRetVS (vD (sTake (sC (.bool false))))) sNext) (sSeq (sFor (sArgI zipI (sCons (sVar 8) (sCons (sVar 7) sNil))) (gsTup 2 (gsCons (gsName 10) (gsCons (gsName 11) gsNil))) (sSeq (sIf (sOr (sTest (sBin dNe (sCB dRepr (sCons (sSlice (sVar 11) sNoPart (sPart (sC (.int 2)))) sNil)) (sCB dRepr (sCons (sVar 10) sNil)))) (sNot (sTest (sCall 2 m__law_is_whole (sCons (sBin dIx (sVar 11) (sC (.int 2))) (sCons (sCB dLen (sCons (sBin dIx (sVar 4) (sC (.int 0))) sNil)) sNil)))))) (sRetVS (vD (sTake (sC (.bool false))))) sNext) (sIf (sTest (sBin dEq (sBin dIx (sBin dIx (sVar 4) (sBin dIx (sVar 10) (sC (.int 0)))) (sBin dIx (sVar 11) (sC (.int 2)))) (sBin dIx (sBin dIx (sVar 4) (sBin dIx (sVar 10) (sC (.int 1)))) (sBin dIx (sVar 11) (sC (.int 2)))))) (sRetVS (vD (sTake (sC (.bool false))))) sNext))) (sRetVS (vD (sTake (sC (.bool true)))))))))))))))
noncomputable def m_is_loom : Fn := defn 1 (sRetVS (vD (sTake (sCall 1 m_is_loom_value (sCons (sVar 0) sNil)))))
noncomputable def m__law_right : Fn := defn 17 (sSeq (sSetV (vD (sTake (sCall 2 m__law_loom (sCons (sVar 0) (sCons (sC (.int 4)) sNil))))) 1) (sSeq (sSetV (vD (sTake (sCall 1 m__law_woven (sCons (sVar 1) sNil)))) 2) (sSeq (sPar 3 4 (vD (sTake (sCall 1 m_fewest_shafts (sCons (sVar 2) sNil)))) (vD (sTake (sCall 1 m_fewest_treadles (sCons (sVar 2) sNil))))) (sSeq (sFor (sArgI rngI (sCons (sC (.int 3)) sNil)) (gsName 5) (sSeq (sPar 6 7 (vD (sTake (sCB dMax (sCons (sC (.int 1)) (sCons (sBin dSub (sBin dAdd (sVar 3) (sCall 2 m__law_draw (sCons (sVar 0) (sCons (sC (.int 4)) sNil)))) (sC (.int 2))) sNil))))) (vD (sTake (sCB dMax (sCons (sC (.int 1)) (sCons (sBin dSub (sBin dAdd (sVar 4) (sCall 2 m__law_draw (sCons (sVar 0) (sCons (sC (.int 4)) sNil)))) (sC (.int 2))) sNil)))))) (sSeq (sSetV (vD (sTake (sCall 3 m_spread (sCons (sVar 2) (sCons (sVar 6) (sCons (sVar 7) sNil)))))) 8) (sSeq (sSetV (vD (sTake (sIf (sTest (sBin dIsNot (sVar 8) (sC .none))) (sVar 8) (sCall 3 m__law_drawn (sCons (sVar 0) (sCons (sVar 2) (sCons (sVar 6) sNil))))))) 9) (sSeq (sSetV (vD (sTake (sCall 3 m__law_drawn (sCons (sVar 0) (sCons (sVar 2) (sCons (sVar 7) sNil)))))) 10) (sSeq (sSetV (vD (sTake (sKeep (sLst (sCons (sVar 9) (sCons (sVar 8) (sCons (sC .none) (sCons (sTup sNil) (sCons (sC (.int 0)) (sCons sDict0 (sCons (sC (.str "spread")) (sCons (sCall 3 m__law_drawn (sCons (sVar 0) (sCons (sVar 2) (sCons (sVar 6) sNil)))) (sCons (sVar 10) sNil))))))))))))) 11) (sSeq (sSetV (vD (sTake (sBin dAdd (sBin dAdd (sVar 11) (sKeep (sLC [16] (sArgI rngI (sCons (sC (.int 10)) sNil)) (gsName 16) sYes (sTake (sCall 2 m__law_bent (sCons (sVar 0) (sCons (sVar 9) sNil))))))) (sKeep (sLC [16] (sArgI rngI (sCons (sC (.int 4)) sNil)) (gsName 16) sYes (sTake (sCall 2 m__law_bent (sCons (sVar 0) (sCons (sVar 10) sNil))))))))) 11) (sSeq (sFor (sSeqI (sTake (sVar 11))) (gsName 12) (sSeq (sPar 13 14 (vD (sTake (sCall 4 m__law_is_spread (sCons (sVar 2) (sCons (sVar 6) (sCons (sVar 7) (sCons (sVar 12) sNil))))))) (vD (sTake (sCB dRepr (sCons (sVar 12) sNil))))) (sSeq (sSetV (vD (sTake (sCall 4 m_is_spread (sPerm [3, 2, 1, 0] (sApp 0 4 sNil (sCons (sVar 12) (sCons (sVar 7) (sCons (sVar 6) (sCons (sVar 2) sNil))))))))) 15) (sIf (sOr (sTest (sBin dNe (sCB dRepr (sCons (sKeep (sLst (sCons (sCall 4 m_is_spread (sCons (sVar 2) (sCons (sVar 6) (sCons (sVar 7) (sCons (sVar 12) sNil))))) (sCons (sVar 15) sNil)))) sNil)) (sCB dRepr (sCons (sKeep (sLst (sCons (sVar 13) (sCons (sVar 13) sNil)))) sNil)))) (sTest (sBin dNe (sCB dRepr (sCons (sVar 12) sNil)) (sVar 14)))) (sRetVS (vD (sTake (sC (.bool false))))) sNext)))) (sFor (sSeqI (sTake (sCall 3 m__law_looms (sCons (sVar 0) (sCons (sVar 1) (sCons (sVar 2) sNil)))))) (gsName 12) (sSeq (sSetV (vD (sTake (sAndV (sCall 1 m_is_loom (sCons (sVar 12) sNil)) (sAndV (sBin dLe (sBin dIx (sVar 12) (sC (.int 1))) (sVar 6)) (sAndV (sBin dLe (sCB dLen (sCons (sBin dIx (sVar 12) (sC (.int 3))) sNil)) (sVar 7)) (sBin dEq (sCall 1 m__law_woven (sCons (sVar 12) sNil)) (sVar 2))))))) 13) (sSeq (sSetV (vD (sTake (sCall 4 m_is_loom_within (sPerm [3, 2, 1, 0] (sApp 0 4 sNil (sCons (sVar 12) (sCons (sVar 7) (sCons (sVar 6) (sCons (sVar 2) sNil))))))))) 15) (sIf (sTest (sBin dNe (sCB dRepr (sCons (sKeep (sLst (sCons (sCall 4 m_is_loom_within (sCons (sVar 2) (sCons (sVar 6) (sCons (sVar 7) (sCons (sVar 12) sNil))))) (sCons (sVar 15) sNil)))) sNil)) (sCB dRepr (sCons (sKeep (sLst (sCons (sVar 13) (sCons (sVar 13) sNil)))) sNil)))) (sRetVS (vD (sTake (sC (.bool false))))) sNext)))))))))))) (sRetVS (vD (sTake (sC (.bool true)))))))))
noncomputable def m__law_pot : Fn := defn 3 (sSeq (sSetV (vD (sTake (sBin dAdd (sBin dMulX (sC (.int 1117)) (sVar 1)) (sC (.int 9377))))) 2) (sSeq (sIf (sTest (sBin dLt (sVar 1) (sCB dLen (sCons (sVar 0) sNil)))) (sSetV (vD (sTake (sCB dAbs (sCons (sBin dIx (sVar 0) (sVar 1)) sNil)))) 2) sNext) (sRetVS (vL (sLst (sCons (sCB dMax (sCons (sC (.int 0)) (sCons (sBin dSub (sVar 2) (sBin dPow (sC (.int 10)) (sC (.int 18)))) sNil))) (sCons (sBin dAdd (sBin dMod (sCB dInt (sCons (sBin dAdd (sBin dAdd (sBin dMulX (sBin dMod (sCB dInt (sCons (sVar 2) sNil)) (sC (.int 2147483549))) (sC (.int 40014))) (sBin dMulX (sC (.int 9377)) (sVar 1))) (sC (.int 61))) sNil)) (sC (.int 2147483563))) (sC (.int 1))) sNil)))))))
noncomputable def m_law : Fn := defn 2 (sRetVS (vD (sTake (sCB dAll (sCons (sKeep (sLC [1] (sArgI rngI (sCons (sCB dMax (sCons (sC (.int 1)) (sCons (sCB dMin (sCons (sC (.int 2)) (sCons (sCB dLen (sCons (sVar 0) sNil)) sNil))) sNil))) sNil)) (gsName 1) sYes (sTake (sCallF m__law_right (sCallL 2 m__law_pot (sCons (sVar 0) (sCons (sVar 1) sNil))))))) sNil)))))
/-! ### the walks -/
section
variable {P : Program} {w : World} {K : PySem.W.Frag} {mg : Str → Option Value} {base : Heap}
theorem g__law_draw {k : Nat} {f : Addr} {fd : FuncData} (F : Fun K "_law_draw" "_law_draw" s__law_draw f fd) (M : Md K mg) : FnG P w K mg base (k + 1) f fd ["pot", "many"] m__law_draw :=
  fnG_of F sc__law_draw rfl fun cdv A outer s H hr hgd => ⟨_, (sss_cons (ss_if (st_cmp op_gt vGt (se_ix (opIx rfl) vIx (se_pv 0) se_int) se_int) (sss_cons (ss_asg (sd_se (se_cb crDivmod vDivmod M.z_divmod bt_divmod (sa_cons (se_ix (opIx rfl) vIx (se_pv 0) se_int) (sa_cons (se_pv 1) sa_nil)))) (sg_tup rfl rfl (sgs_cons (sg_sub (se_pv 0) se_int) (sgs_cons (sg_name (i := 2) sc__law_draw.nd) sgs_nil)))) (sss_one (ss_ret (sv_d (sd_se (se_pv 2)))))) sss_nil) (sss_cons (ss_asg (sd_se (se_bin op_mod vMod (se_ct crInt vInt M.z_int bt_int (sa_cons (se_bin (opAdd rfl) vAdd (se_bin (opMulX rfl) vMulX (se_ix (opIx rfl) vIx (se_pv 0) se_int) se_int) se_int) sa_nil)) se_int)) (sg_sub (se_pv 0) se_int)) (sss_one (ss_ret (sv_d (sd_se (se_bin op_mod vMod (se_ct crInt vInt M.z_int bt_int (sa_cons (se_bin op_fdiv vDiv (se_bin op_mod vMod (se_ct crInt vInt M.z_int bt_int (sa_cons (se_bin (opMulX rfl) vMulX (se_ix (opIx rfl) vIx (se_pv 0) se_int) (se_ix (opIx rfl) vIx (se_pv 0) se_int)) sa_nil)) se_int) se_int) sa_nil)) (se_pv 1))))))))⟩
theorem g__law_loom {k : Nat} {f : Addr} {fd : FuncData} (F : Fun K "_law_loom" "_law_loom" s__law_loom f fd) (M : Md K mg) {f__law_draw : Addr} {fd__law_draw : FuncData} (c__law_draw : DL.Cal P w K mg base k "_law_draw" ["pot", "many"] m__law_draw f__law_draw fd__law_draw) : FnG P w K mg base (k + 1) f fd ["pot", "most"] m__law_loom :=
  fnG_of F sc__law_loom rfl fun cdv A outer s H hr hgd => ⟨_, (sss_cons (ss_asg (sd_se (se_tup (sa_cons (se_bin (opAdd rfl) vAdd se_int (se_call (K := K) (ps := ["pot", "many"]) (m := m__law_draw) rfl c__law_draw hr hgd (sa_cons (se_pv 0) (sa_cons (se_pv 1) sa_nil)))) (sa_cons (se_bin (opAdd rfl) vAdd se_int (se_call (K := K) (ps := ["pot", "many"]) (m := m__law_draw) rfl c__law_draw hr hgd (sa_cons (se_pv 0) (sa_cons (se_pv 1) sa_nil)))) sa_nil)))) (sg_tup rfl rfl (sgs_cons (sg_name (i := 2) sc__law_loom.nd) (sgs_cons (sg_name (i := 3) sc__law_loom.nd) sgs_nil)))) (sss_cons (ss_set (i := 4) sc__law_loom.nd (sv_d (sd_se (se_ct (crTuple rfl) vTuple M.z_tuple bt_tuple (sa_cons (se_sl (sl_lc [("warp", 7)] [7] rfl sc__law_loom.nd (si_rng1 M.z_range (sa_cons (se_bin (opAdd rfl) vAdd se_int (se_call (K := K) (ps := ["pot", "many"]) (m := m__law_draw) rfl c__law_draw hr hgd (sa_cons (se_pv 0) (sa_cons (se_bin (opAdd rfl) vAdd (se_pv 1) se_int) sa_nil)))) sa_nil)) (by kernel_rfl) (fun _ _ _ _ _ => (sg_name (i := 7) sc__law_loom.nd)) (fun _ _ _ _ _ => sts_nil) (fun _ _ _ _ _ => (sd_se (se_call (K := K) (ps := ["pot", "many"]) (m := m__law_draw) rfl c__law_draw hr hgd (sa_cons (se_pv 0) (sa_cons (se_pv 2) sa_nil))))))) sa_nil))))) (sss_cons (ss_set (i := 5) sc__law_loom.nd (sv_d (sd_se (se_ct (crTuple rfl) vTuple M.z_tuple bt_tuple (sa_cons (se_sl (sl_lc [("treadle", 8)] [8] rfl sc__law_loom.nd (si_rng1 M.z_range (sa_cons (se_pv 3) sa_nil)) (by kernel_rfl) (fun _ _ _ _ _ => (sg_name (i := 8) sc__law_loom.nd)) (fun _ _ _ _ _ => sts_nil) (fun _ _ _ _ _ => (sd_se (se_ct (crTuple rfl) vTuple M.z_tuple bt_tuple (sa_cons (se_sl (sl_lc [("shaft", 10)] [10] rfl sc__law_loom.nd (si_rng1 M.z_range (sa_cons (se_pv 2) sa_nil)) (by kernel_rfl) (fun _ _ _ _ _ => (sg_name (i := 10) sc__law_loom.nd)) (fun _ _ _ _ _ => (sts_one (st_cmp (opEq rfl hr) vEq (se_call (K := K) (ps := ["pot", "many"]) (m := m__law_draw) rfl c__law_draw hr hgd (sa_cons (se_pv 0) (sa_cons se_int sa_nil))) se_int))) (fun _ _ _ _ _ => (sd_se (se_pv 10))))) sa_nil)))))) sa_nil))))) (sss_cons (ss_set (i := 6) sc__law_loom.nd (sv_d (sd_se (se_ct (crTuple rfl) vTuple M.z_tuple bt_tuple (sa_cons (se_sl (sl_lc [("weft", 9)] [9] rfl sc__law_loom.nd (si_rng1 M.z_range (sa_cons (se_bin (opAdd rfl) vAdd se_int (se_call (K := K) (ps := ["pot", "many"]) (m := m__law_draw) rfl c__law_draw hr hgd (sa_cons (se_pv 0) (sa_cons (se_bin (opAdd rfl) vAdd (se_pv 1) se_int) sa_nil)))) sa_nil)) (by kernel_rfl) (fun _ _ _ _ _ => (sg_name (i := 9) sc__law_loom.nd)) (fun _ _ _ _ _ => sts_nil) (fun _ _ _ _ _ => (sd_se (se_call (K := K) (ps := ["pot", "many"]) (m := m__law_draw) rfl c__law_draw hr hgd (sa_cons (se_pv 0) (sa_cons (se_pv 3) sa_nil))))))) sa_nil))))) (sss_one (ss_ret (sv_d (sd_se (se_tup (sa_cons se_str (sa_cons (se_pv 2) (sa_cons (se_pv 4) (sa_cons (se_pv 5) (sa_cons (se_pv 6) sa_nil))))))))))))))⟩
theorem g__law_woven {k : Nat} {f : Addr} {fd : FuncData} (F : Fun K "_law_woven" "_law_woven" s__law_woven f fd) (M : Md K mg) : FnG P w K mg base (k + 1) f fd ["loom"] m__law_woven :=
  fnG_of F sc__law_woven rfl fun cdv A outer s H hr hgd => ⟨_, (sss_cons (ss_set (i := 1) sc__law_woven.nd (sv_l (sl_lst sa_nil))) (sss_cons (ss_for PassesOwn.never rfl (si_seq rfl (sd_se (se_ix (opIx rfl) vIx (se_pv 0) se_int))) (sg_name (i := 2) sc__law_woven.nd) (sss_one (ss_expr (se_append rfl (se_pv 1) (sa_cons (se_ct (crTuple rfl) vTuple M.z_tuple bt_tuple (sa_cons (se_sl (sl_lc [("shaft", 3)] [3] rfl sc__law_woven.nd (si_seq rfl (sd_se (se_ix (opIx rfl) vIx (se_pv 0) se_int))) (by kernel_rfl) (fun _ _ _ _ _ => (sg_name (i := 3) sc__law_woven.nd)) (fun _ _ _ _ _ => sts_nil) (fun _ _ _ _ _ => (sd_se (se_if (st_cmp (opIn rfl hr) vIn (se_pv 3) (se_ix (opIx rfl) vIx (se_ix (opIx rfl) vIx (se_pv 0) se_int) (se_pv 2))) se_int se_int))))) sa_nil)) sa_nil))))) (sss_one (ss_ret (sv_d (sd_se (se_tup (sa_cons se_str (sa_cons (se_ct (crTuple rfl) vTuple M.z_tuple bt_tuple (sa_cons (se_pv 1) sa_nil)) sa_nil)))))))))⟩
theorem g_is_tuple {k : Nat} {f : Addr} {fd : FuncData} (F : Fun K "is_tuple" "is_tuple" s_is_tuple f fd) (M : Md K mg) : FnG P w K mg base (k + 1) f fd ["value", "many"] m_is_tuple :=
  fnG_of F sc_is_tuple rfl fun cdv A outer s H hr hgd => ⟨_, (sss_one (ss_ret (sv_d (sd_se (se_and (se_isi (T := .tuple) rfl nofun M.z_isinstance M.z_tuple bt_tuple (se_pv 0)) (se_one (se_cmp (opEq rfl hr) vEq (se_cb (crLen rfl) vLen M.z_len bt_len (sa_cons (se_pv 0) sa_nil)) (se_pv 1))))))))⟩
theorem g_is_headed {k : Nat} {f : Addr} {fd : FuncData} (F : Fun K "is_headed" "is_headed" s_is_headed f fd) (M : Md K mg) {f_is_tuple : Addr} {fd_is_tuple : FuncData} (c_is_tuple : DL.Cal P w K mg base k "is_tuple" ["value", "many"] m_is_tuple f_is_tuple fd_is_tuple) : FnG P w K mg base (k + 1) f fd ["value", "word"] m_is_headed :=
  fnG_of F sc_is_headed rfl fun cdv A outer s H hr hgd => ⟨_, (sss_one (ss_ret (sv_d (sd_se (se_and (se_call (K := K) (ps := ["value", "many"]) (m := m_is_tuple) rfl c_is_tuple hr hgd (sa_cons (se_pv 0) (sa_cons se_int sa_nil))) (se_and (se_isi (T := .str) rfl nofun M.z_isinstance M.z_str bt_str (se_ix (opIx rfl) vIx (se_pv 0) se_int)) (se_one (se_cmp (opEq rfl hr) vEq (se_ix (opIx rfl) vIx (se_pv 0) se_int) (se_pv 1)))))))))⟩
theorem g_is_integer {k : Nat} {f : Addr} {fd : FuncData} (F : Fun K "is_integer" "is_integer" s_is_integer f fd) (M : Md K mg) : FnG P w K mg base (k + 1) f fd ["value"] m_is_integer :=
  fnG_of F sc_is_integer rfl fun cdv A outer s H hr hgd => ⟨_, (sss_one (ss_ret (sv_d (sd_se (se_and (se_isi (T := .int) rfl nofun M.z_isinstance M.z_int bt_int (se_pv 0)) (se_one (se_not (se_isi (T := .bool) rfl nofun M.z_isinstance M.z_bool bt_bool (se_pv 0)))))))))⟩
theorem g_is_within {k : Nat} {f : Addr} {fd : FuncData} (F : Fun K "is_within" "is_within" s_is_within f fd) (M : Md K mg) {f_is_integer : Addr} {fd_is_integer : FuncData} (c_is_integer : DL.Cal P w K mg base k "is_integer" ["value"] m_is_integer f_is_integer fd_is_integer) : FnG P w K mg base (k + 1) f fd ["value", "least", "most"] m_is_within :=
  fnG_of F sc_is_within rfl fun cdv A outer s H hr hgd => ⟨_, (sss_one (ss_ret (sv_d (sd_se (se_and (se_call (K := K) (ps := ["value"]) (m := m_is_integer) rfl c_is_integer hr hgd (sa_cons (se_pv 0) sa_nil)) (se_one (se_chain op_le vLe op_le vLe (se_pv 1) (se_pv 0) (se_pv 2))))))))⟩
theorem g_are_rows_of {k : Nat} {f : Addr} {fd : FuncData} (F : Fun K "are_rows_of" "are_rows_of" s_are_rows_of f fd) (M : Md K mg) {f_is_within : Addr} {fd_is_within : FuncData} (c_is_within : DL.Cal P w K mg base k "is_within" ["value", "least", "most"] m_is_within f_is_within fd_is_within) : FnG P w K mg base (k + 1) f fd ["value", "signs"] m_are_rows_of :=
  fnG_of F sc_are_rows_of rfl fun cdv A outer s H hr hgd => ⟨_, (sss_cons (ss_if (st_sw (sw_or (st_not (st_val (se_isi (T := .tuple) rfl nofun M.z_isinstance M.z_tuple bt_tuple (se_pv 0)))) (sw_or1 (st_not (st_chain op_le vLe op_le vLe se_int (se_cb (crLen rfl) vLen M.z_len bt_len (sa_cons (se_pv 0) sa_nil)) (se_glob M.c_MOST)))))) (sss_one (ss_ret (sv_d (sd_se se_bl)))) sss_nil) (sss_cons (ss_if (st_not (st_val (se_cb (crAll rfl rfl) vAll M.z_all bt_all (sa_cons (se_sl (sl_lc [("row", 2)] [2] rfl sc_are_rows_of.nd (si_seq rfl (sd_se (se_pv 0))) (by kernel_rfl) (fun _ _ _ _ _ => (sg_name (i := 2) sc_are_rows_of.nd)) (fun _ _ _ _ _ => sts_nil) (fun _ _ _ _ _ => (sd_se (se_isi (T := .tuple) rfl nofun M.z_isinstance M.z_tuple bt_tuple (se_pv 2)))))) sa_nil)))) (sss_one (ss_ret (sv_d (sd_se se_bl)))) sss_nil) (sss_cons (ss_if (st_sw (sw_or (st_not (st_chain op_le vLe op_le vLe se_int (se_cb (crLen rfl) vLen M.z_len bt_len (sa_cons (se_ix (opIx rfl) vIx (se_pv 0) se_int) sa_nil)) (se_glob M.c_MOST))) (sw_or1 (st_val (se_cb (crAny rfl rfl) vAny M.z_any bt_any (sa_cons (se_sl (sl_lc [("row", 2)] [2] rfl sc_are_rows_of.nd (si_seq rfl (sd_se (se_pv 0))) (by kernel_rfl) (fun _ _ _ _ _ => (sg_name (i := 2) sc_are_rows_of.nd)) (fun _ _ _ _ _ => sts_nil) (fun _ _ _ _ _ => (sd_se (se_cmp (opNe rfl hr) vNe (se_cb (crLen rfl) vLen M.z_len bt_len (sa_cons (se_pv 2) sa_nil)) (se_cb (crLen rfl) vLen M.z_len bt_len (sa_cons (se_ix (opIx rfl) vIx (se_pv 0) se_int) sa_nil))))))) sa_nil)))))) (sss_one (ss_ret (sv_d (sd_se se_bl)))) sss_nil) (sss_one (ss_ret (sv_d (sd_se (se_cb (crAll rfl rfl) vAll M.z_all bt_all (sa_cons (se_sl (sl_lc [("row", 2)] [2] rfl sc_are_rows_of.nd (si_seq rfl (sd_se (se_pv 0))) (by kernel_rfl) (fun _ _ _ _ _ => (sg_name (i := 2) sc_are_rows_of.nd)) (fun _ _ _ _ _ => sts_nil) (fun _ _ _ _ _ => (sd_se (se_cb (crAll rfl rfl) vAll M.z_all bt_all (sa_cons (se_sl (sl_lc [("one", 3)] [3] rfl sc_are_rows_of.nd (si_seq rfl (sd_se (se_pv 2))) (by kernel_rfl) (fun _ _ _ _ _ => (sg_name (i := 3) sc_are_rows_of.nd)) (fun _ _ _ _ _ => sts_nil) (fun _ _ _ _ _ => (sd_se (se_call (K := K) (ps := ["value", "least", "most"]) (m := m_is_within) rfl c_is_within hr hgd (sa_cons (se_pv 3) (sa_cons se_int (sa_cons (se_bin op_sub vSub (se_pv 1) se_int) sa_nil)))))))) sa_nil)))))) sa_nil)))))))))⟩
theorem g_is_draft_value {k : Nat} {f : Addr} {fd : FuncData} (F : Fun K "is_draft_value" "is_draft_value" s_is_draft_value f fd) (M : Md K mg) {f_are_rows_of : Addr} {fd_are_rows_of : FuncData} (c_are_rows_of : DL.Cal P w K mg base k "are_rows_of" ["value", "signs"] m_are_rows_of f_are_rows_of fd_are_rows_of) {f_is_headed : Addr} {fd_is_headed : FuncData} (c_is_headed : DL.Cal P w K mg base k "is_headed" ["value", "word"] m_is_headed f_is_headed fd_is_headed) : FnG P w K mg base (k + 1) f fd ["value"] m_is_draft_value :=
  fnG_of F sc_is_draft_value rfl fun cdv A outer s H hr hgd => ⟨_, (sss_one (ss_ret (sv_d (sd_se (se_and (se_call (K := K) (ps := ["value", "word"]) (m := m_is_headed) rfl c_is_headed hr hgd (sa_cons (se_pv 0) (sa_cons se_str sa_nil))) (se_one (se_call (K := K) (ps := ["value", "signs"]) (m := m_are_rows_of) rfl c_are_rows_of hr hgd (sa_cons (se_ix (opIx rfl) vIx (se_pv 0) se_int) (sa_cons se_int sa_nil)))))))))⟩
theorem g_want_draft {k : Nat} {f : Addr} {fd : FuncData} (F : Fun K "want_draft" "want_draft" s_want_draft f fd) (M : Md K mg) {f_is_draft_value : Addr} {fd_is_draft_value : FuncData} (c_is_draft_value : DL.Cal P w K mg base k "is_draft_value" ["value"] m_is_draft_value f_is_draft_value fd_is_draft_value) : FnG P w K mg base (k + 1) f fd ["draft"] m_want_draft :=
  fnG_of F sc_want_draft rfl fun cdv A outer s H hr hgd => ⟨_, (sss_one (ss_if (st_not (st_val (se_call (K := K) (ps := ["value"]) (m := m_is_draft_value) rfl c_is_draft_value hr hgd (sa_cons (se_pv 0) sa_nil)))) (sss_one ss_never) sss_nil))⟩
theorem g_by_first {k : Nat} {f : Addr} {fd : FuncData} (F : Fun K "by_first" "by_first" s_by_first f fd) (M : Md K mg) : FnG P w K mg base (k + 1) f fd ["values"] m_by_first :=
  fnG_of F sc_by_first rfl fun cdv A outer s H hr hgd => ⟨_, (sss_cons (ss_set (i := 1) sc_by_first.nd (sv_l (sl_lst sa_nil))) (sss_cons (ss_for PassesOwn.never rfl (si_seq rfl (sd_se (se_pv 0))) (sg_name (i := 2) sc_by_first.nd) (sss_one (ss_if (st_cmp (opNotIn rfl hr) vNotIn (se_pv 2) (se_pv 1)) (sss_one (ss_expr (se_append rfl (se_pv 1) (sa_cons (se_pv 2) sa_nil)))) sss_nil))) (sss_one (ss_retV (se_pv 1)))))⟩
theorem g_many_warps {k : Nat} {f : Addr} {fd : FuncData} (F : Fun K "many_warps" "many_warps" s_many_warps f fd) (M : Md K mg) : FnG P w K mg base (k + 1) f fd ["draft"] m_many_warps :=
  fnG_of F sc_many_warps rfl fun cdv A outer s H hr hgd => ⟨_, (sss_one (ss_ret (sv_d (sd_se (se_cb (crLen rfl) vLen M.z_len bt_len (sa_cons (se_ix (opIx rfl) vIx (se_ix (opIx rfl) vIx (se_pv 0) se_int) se_int) sa_nil))))))⟩
theorem g_columns_of {k : Nat} {f : Addr} {fd : FuncData} (F : Fun K "columns_of" "columns_of" s_columns_of f fd) (M : Md K mg) {f_many_warps : Addr} {fd_many_warps : FuncData} (c_many_warps : DL.Cal P w K mg base k "many_warps" ["draft"] m_many_warps f_many_warps fd_many_warps) : FnG P w K mg base (k + 1) f fd ["draft"] m_columns_of :=
  fnG_of F sc_columns_of rfl fun cdv A outer s H hr hgd => ⟨_, (sss_one (ss_ret (sv_l (sl_lc [("warp", 1)] [1] rfl sc_columns_of.nd (si_rng1 M.z_range (sa_cons (se_call (K := K) (ps := ["draft"]) (m := m_many_warps) rfl c_many_warps hr hgd (sa_cons (se_pv 0) sa_nil)) sa_nil)) (by kernel_rfl) (fun _ _ _ _ _ => (sg_name (i := 1) sc_columns_of.nd)) (fun _ _ _ _ _ => sts_nil) (fun _ _ _ _ _ => (sd_se (se_ct (crTuple rfl) vTuple M.z_tuple bt_tuple (sa_cons (se_sl (sl_lc [("row", 2)] [2] rfl sc_columns_of.nd (si_seq rfl (sd_se (se_ix (opIx rfl) vIx (se_pv 0) se_int))) (by kernel_rfl) (fun _ _ _ _ _ => (sg_name (i := 2) sc_columns_of.nd)) (fun _ _ _ _ _ => sts_nil) (fun _ _ _ _ _ => (sd_se (se_ix (opIx rfl) vIx (se_pv 2) (se_pv 1)))))) sa_nil))))))))⟩
theorem g_lines_of {k : Nat} {f : Addr} {fd : FuncData} (F : Fun K "lines_of" "lines_of" s_lines_of f fd) (M : Md K mg) {f_columns_of : Addr} {fd_columns_of : FuncData} (c_columns_of : DL.Cal P w K mg base k "columns_of" ["draft"] m_columns_of f_columns_of fd_columns_of) : FnG P w K mg base (k + 1) f fd ["draft", "kind"] m_lines_of :=
  fnG_of F sc_lines_of rfl fun cdv A outer s H hr hgd => ⟨_, (sss_one (ss_ret (sv_d (sd_se (se_if (st_cmp (opEq rfl hr) vEq (se_pv 1) (se_glob M.c_WARP)) (se_call (K := K) (ps := ["draft"]) (m := m_columns_of) rfl c_columns_of hr hgd (sa_cons (se_pv 0) sa_nil)) (se_sl (sl_ct (crList rfl) vListL M.z_list bt_list (sa_cons (se_ix (opIx rfl) vIx (se_pv 0) se_int) sa_nil))))))))⟩
theorem g_many_unlike {k : Nat} {f : Addr} {fd : FuncData} (F : Fun K "many_unlike" "many_unlike" s_many_unlike f fd) (M : Md K mg) {f_by_first : Addr} {fd_by_first : FuncData} (c_by_first : DL.Cal P w K mg base k "by_first" ["values"] m_by_first f_by_first fd_by_first) {f_lines_of : Addr} {fd_lines_of : FuncData} (c_lines_of : DL.Cal P w K mg base k "lines_of" ["draft", "kind"] m_lines_of f_lines_of fd_lines_of) : FnG P w K mg base (k + 1) f fd ["draft", "kind"] m_many_unlike :=
  fnG_of F sc_many_unlike rfl fun cdv A outer s H hr hgd => ⟨_, (sss_one (ss_ret (sv_d (sd_se (se_cb (crLen rfl) vLen M.z_len bt_len (sa_cons (se_call (K := K) (ps := ["values"]) (m := m_by_first) rfl c_by_first hr hgd (sa_cons (se_call (K := K) (ps := ["draft", "kind"]) (m := m_lines_of) rfl c_lines_of hr hgd (sa_cons (se_pv 0) (sa_cons (se_pv 1) sa_nil))) sa_nil)) sa_nil))))))⟩
theorem g_fewest_shafts {k : Nat} {f : Addr} {fd : FuncData} (F : Fun K "fewest_shafts" "fewest_shafts" s_fewest_shafts f fd) (M : Md K mg) {f_many_unlike : Addr} {fd_many_unlike : FuncData} (c_many_unlike : DL.Cal P w K mg base k "many_unlike" ["draft", "kind"] m_many_unlike f_many_unlike fd_many_unlike) {f_want_draft : Addr} {fd_want_draft : FuncData} (c_want_draft : DL.Cal P w K mg base k "want_draft" ["draft"] m_want_draft f_want_draft fd_want_draft) : FnG P w K mg base (k + 1) f fd ["draft"] m_fewest_shafts :=
  fnG_of F sc_fewest_shafts rfl fun cdv A outer s H hr hgd => ⟨_, (sss_cons (ss_expr (se_call (K := K) (ps := ["draft"]) (m := m_want_draft) rfl c_want_draft hr hgd (sa_cons (se_pv 0) sa_nil))) (sss_one (ss_ret (sv_d (sd_se (se_call (K := K) (ps := ["draft", "kind"]) (m := m_many_unlike) rfl c_many_unlike hr hgd (sa_cons (se_pv 0) (sa_cons (se_glob M.c_WARP) sa_nil))))))))⟩
theorem g_fewest_treadles {k : Nat} {f : Addr} {fd : FuncData} (F : Fun K "fewest_treadles" "fewest_treadles" s_fewest_treadles f fd) (M : Md K mg) {f_many_unlike : Addr} {fd_many_unlike : FuncData} (c_many_unlike : DL.Cal P w K mg base k "many_unlike" ["draft", "kind"] m_many_unlike f_many_unlike fd_many_unlike) {f_want_draft : Addr} {fd_want_draft : FuncData} (c_want_draft : DL.Cal P w K mg base k "want_draft" ["draft"] m_want_draft f_want_draft fd_want_draft) : FnG P w K mg base (k + 1) f fd ["draft"] m_fewest_treadles :=
  fnG_of F sc_fewest_treadles rfl fun cdv A outer s H hr hgd => ⟨_, (sss_cons (ss_expr (se_call (K := K) (ps := ["draft"]) (m := m_want_draft) rfl c_want_draft hr hgd (sa_cons (se_pv 0) sa_nil))) (sss_one (ss_ret (sv_d (sd_se (se_call (K := K) (ps := ["draft", "kind"]) (m := m_many_unlike) rfl c_many_unlike hr hgd (sa_cons (se_pv 0) (sa_cons (se_glob M.c_WEFT) sa_nil))))))))⟩
theorem g_want_most {k : Nat} {f : Addr} {fd : FuncData} (F : Fun K "want_most" "want_most" s_want_most f fd) (M : Md K mg) {f_is_within : Addr} {fd_is_within : FuncData} (c_is_within : DL.Cal P w K mg base k "is_within" ["value", "least", "most"] m_is_within f_is_within fd_is_within) : FnG P w K mg base (k + 1) f fd ["value"] m_want_most :=
  fnG_of F sc_want_most rfl fun cdv A outer s H hr hgd => ⟨_, (sss_one (ss_if (st_not (st_val (se_call (K := K) (ps := ["value", "least", "most"]) (m := m_is_within) rfl c_is_within hr hgd (sa_cons (se_pv 0) (sa_cons se_int (sa_cons (se_glob M.c_MOST) sa_nil)))))) (sss_one ss_never) sss_nil))⟩
theorem g_want_numbers {k : Nat} {f : Addr} {fd : FuncData} (F : Fun K "want_numbers" "want_numbers" s_want_numbers f fd) (M : Md K mg) {f_want_most : Addr} {fd_want_most : FuncData} (c_want_most : DL.Cal P w K mg base k "want_most" ["value"] m_want_most f_want_most fd_want_most) {f_want_draft : Addr} {fd_want_draft : FuncData} (c_want_draft : DL.Cal P w K mg base k "want_draft" ["draft"] m_want_draft f_want_draft fd_want_draft) : FnG P w K mg base (k + 1) f fd ["draft", "shafts", "treadles"] m_want_numbers :=
  fnG_of F sc_want_numbers rfl fun cdv A outer s H hr hgd => ⟨_, (sss_cons (ss_expr (se_call (K := K) (ps := ["draft"]) (m := m_want_draft) rfl c_want_draft hr hgd (sa_cons (se_pv 0) sa_nil))) (sss_cons (ss_expr (se_call (K := K) (ps := ["value"]) (m := m_want_most) rfl c_want_most hr hgd (sa_cons (se_pv 1) sa_nil))) (sss_one (ss_expr (se_call (K := K) (ps := ["value"]) (m := m_want_most) rfl c_want_most hr hgd (sa_cons (se_pv 2) sa_nil))))))⟩
theorem g_first_unlike {k : Nat} {f : Addr} {fd : FuncData} (F : Fun K "first_unlike" "first_unlike" s_first_unlike f fd) (M : Md K mg) : FnG P w K mg base (k + 1) f fd ["lines", "one", "other"] m_first_unlike :=
  fnG_of F sc_first_unlike rfl fun cdv A outer s H hr hgd => ⟨_, (sss_one (ss_ret (sv_d (sd_se (se_index rfl hr (se_sl (sl_lc [("near", 3), ("far", 4)] [3, 4] rfl sc_first_unlike.nd (si_zip rfl M.z_zip (sa_cons (se_ix (opIx rfl) vIx (se_pv 0) (se_pv 1)) (sa_cons (se_ix (opIx rfl) vIx (se_pv 0) (se_pv 2)) sa_nil))) (by kernel_rfl) (fun _ _ _ _ _ => (sg_tup rfl rfl (sgs_cons (sg_name (i := 3) sc_first_unlike.nd) (sgs_cons (sg_name (i := 4) sc_first_unlike.nd) sgs_nil)))) (fun _ _ _ _ _ => sts_nil) (fun _ _ _ _ _ => (sd_se (se_cmp (opEq rfl hr) vEq (se_pv 3) (se_pv 4)))))) se_bl)))))⟩
theorem g_pairs_of {k : Nat} {f : Addr} {fd : FuncData} (F : Fun K "pairs_of" "pairs_of" s_pairs_of f fd) (M : Md K mg) : FnG P w K mg base (k + 1) f fd ["numbers"] m_pairs_of :=
  fnG_of F sc_pairs_of rfl fun cdv A outer s H hr hgd => ⟨_, (sss_cons (ss_set (i := 1) sc_pairs_of.nd (sv_l (sl_lst sa_nil))) (sss_cons (ss_for PassesOwn.never rfl (si_enum rfl M.z_enumerate (sa_cons (se_pv 0) sa_nil)) (sg_tup rfl rfl (sgs_cons (sg_name (i := 2) sc_pairs_of.nd) (sgs_cons (sg_name (i := 3) sc_pairs_of.nd) sgs_nil))) (sss_one (ss_expr (se_extend rfl (se_pv 1) (sa_cons (se_sl (sl_lc [("other", 4)] [4] rfl sc_pairs_of.nd (si_seq rfl (sd_se (se_slice rfl (se_pv 0) (so_some (se_bin (opAdd rfl) vAdd (se_pv 2) se_int)) so_none))) (by kernel_rfl) (fun _ _ _ _ _ => (sg_name (i := 4) sc_pairs_of.nd)) (fun _ _ _ _ _ => sts_nil) (fun _ _ _ _ _ => (sd_se (se_tup (sa_cons (se_pv 3) (sa_cons (se_pv 4) sa_nil))))))) sa_nil))))) (sss_one (ss_retV (se_pv 1)))))⟩
theorem g_like_lists {k : Nat} {f : Addr} {fd : FuncData} (F : Fun K "like_lists" "like_lists" s_like_lists f fd) (M : Md K mg) {f_by_first : Addr} {fd_by_first : FuncData} (c_by_first : DL.Cal P w K mg base k "by_first" ["values"] m_by_first f_by_first fd_by_first) : FnG P w K mg base (k + 1) f fd ["lines"] m_like_lists :=
  fnG_of F sc_like_lists rfl fun cdv A outer s H hr hgd => ⟨_, (sss_one (ss_ret (sv_l (sl_lc [("one", 1)] [1] rfl sc_like_lists.nd (si_seq rfl (sd_se (se_call (K := K) (ps := ["values"]) (m := m_by_first) rfl c_by_first hr hgd (sa_cons (se_pv 0) sa_nil)))) (by kernel_rfl) (fun _ _ _ _ _ => (sg_name (i := 1) sc_like_lists.nd)) (fun _ _ _ _ _ => sts_nil) (fun _ _ _ _ _ => (sd_se (se_sl (sl_lc [("at", 2), ("line", 3)] [2, 3] rfl sc_like_lists.nd (si_enum rfl M.z_enumerate (sa_cons (se_pv 0) sa_nil)) (by kernel_rfl) (fun _ _ _ _ _ => (sg_tup rfl rfl (sgs_cons (sg_name (i := 2) sc_like_lists.nd) (sgs_cons (sg_name (i := 3) sc_like_lists.nd) sgs_nil)))) (fun _ _ _ _ _ => (sts_one (st_cmp (opEq rfl hr) vEq (se_pv 3) (se_pv 1)))) (fun _ _ _ _ _ => (sd_se (se_pv 2)))))))))))⟩
theorem g_spread_of {k : Nat} {f : Addr} {fd : FuncData} (F : Fun K "spread_of" "spread_of" s_spread_of f fd) (M : Md K mg) {f_pairs_of : Addr} {fd_pairs_of : FuncData} (c_pairs_of : DL.Cal P w K mg base k "pairs_of" ["numbers"] m_pairs_of f_pairs_of fd_pairs_of) {f_first_unlike : Addr} {fd_first_unlike : FuncData} (c_first_unlike : DL.Cal P w K mg base k "first_unlike" ["lines", "one", "other"] m_first_unlike f_first_unlike fd_first_unlike) {f_like_lists : Addr} {fd_like_lists : FuncData} (c_like_lists : DL.Cal P w K mg base k "like_lists" ["lines"] m_like_lists f_like_lists fd_like_lists) {f_lines_of : Addr} {fd_lines_of : FuncData} (c_lines_of : DL.Cal P w K mg base k "lines_of" ["draft", "kind"] m_lines_of f_lines_of fd_lines_of) : FnG P w K mg base (k + 1) f fd ["draft", "kind", "number"] m_spread_of :=
  fnG_of F sc_spread_of rfl fun cdv A outer s H hr hgd => ⟨_, (sss_cons (ss_set (i := 3) sc_spread_of.nd (sv_d (sd_se (se_call (K := K) (ps := ["draft", "kind"]) (m := m_lines_of) rfl c_lines_of hr hgd (sa_cons (se_pv 0) (sa_cons (se_pv 1) sa_nil)))))) (sss_cons (ss_set (i := 4) sc_spread_of.nd (sv_d (sd_se (se_slice rfl (se_sl (sl_lc [("one", 6)] [6] rfl sc_spread_of.nd (si_seq rfl (sd_se (se_call (K := K) (ps := ["lines"]) (m := m_like_lists) rfl c_like_lists hr hgd (sa_cons (se_pv 3) sa_nil)))) (by kernel_rfl) (fun _ _ _ _ _ => (sg_name (i := 6) sc_spread_of.nd)) (fun _ _ _ _ _ => sts_nil) (fun _ _ _ _ _ => (sd_se (se_ix (opIx rfl) vIx (se_pv 6) se_int))))) so_none (so_some (se_bin (opAdd rfl) vAdd (se_pv 2) se_int)))))) (sss_cons (ss_setLc (i := 5) true [("one", 6), ("other", 7)] [6, 7] rfl sc_spread_of.nd (si_seq rfl (sd_se (se_call (K := K) (ps := ["numbers"]) (m := m_pairs_of) rfl c_pairs_of hr hgd (sa_cons (se_pv 4) sa_nil)))) (by kernel_rfl) (fun _ _ _ _ _ => (sg_tup rfl rfl (sgs_cons (sg_name (i := 6) sc_spread_of.nd) (sgs_cons (sg_name (i := 7) sc_spread_of.nd) sgs_nil)))) (fun _ _ _ _ _ => sts_nil) (fun _ _ _ _ _ => (sd_se (se_tup (sa_cons (se_pv 6) (sa_cons (se_pv 7) (sa_cons (se_call (K := K) (ps := ["lines", "one", "other"]) (m := m_first_unlike) rfl c_first_unlike hr hgd (sa_cons (se_pv 3) (sa_cons (se_pv 6) (sa_cons (se_pv 7) sa_nil)))) sa_nil)))))) (sw_true rfl rfl rfl rfl)) (sss_one (ss_ret (sv_d (sd_se (se_tup (sa_cons (se_pv 1) (sa_cons (se_ct (crTuple rfl) vTuple M.z_tuple bt_tuple (sa_cons (se_pv 4) sa_nil)) (sa_cons (se_ct (crTuple rfl) vTuple M.z_tuple bt_tuple (sa_cons (se_pv 5) sa_nil)) sa_nil)))))))))))⟩
theorem g_spread {k : Nat} {f : Addr} {fd : FuncData} (F : Fun K "spread" "spread" s_spread f fd) (M : Md K mg) {f_many_unlike : Addr} {fd_many_unlike : FuncData} (c_many_unlike : DL.Cal P w K mg base k "many_unlike" ["draft", "kind"] m_many_unlike f_many_unlike fd_many_unlike) {f_spread_of : Addr} {fd_spread_of : FuncData} (c_spread_of : DL.Cal P w K mg base k "spread_of" ["draft", "kind", "number"] m_spread_of f_spread_of fd_spread_of) {f_want_numbers : Addr} {fd_want_numbers : FuncData} (c_want_numbers : DL.Cal P w K mg base k "want_numbers" ["draft", "shafts", "treadles"] m_want_numbers f_want_numbers fd_want_numbers) : FnG P w K mg base (k + 1) f fd ["draft", "shafts", "treadles"] m_spread :=
  fnG_of F sc_spread rfl fun cdv A outer s H hr hgd => ⟨_, (sss_cons (ss_expr (se_call (K := K) (ps := ["draft", "shafts", "treadles"]) (m := m_want_numbers) rfl c_want_numbers hr hgd (sa_cons (se_pv 0) (sa_cons (se_pv 1) (sa_cons (se_pv 2) sa_nil))))) (sss_cons (ss_for PassesOwn.never rfl (si_seq rfl (sd_se (se_tup (sa_cons (se_tup (sa_cons (se_glob M.c_WARP) (sa_cons (se_pv 1) sa_nil))) (sa_cons (se_tup (sa_cons (se_glob M.c_WEFT) (sa_cons (se_pv 2) sa_nil))) sa_nil))))) (sg_tup rfl rfl (sgs_cons (sg_name (i := 3) sc_spread.nd) (sgs_cons (sg_name (i := 4) sc_spread.nd) sgs_nil))) (sss_one (ss_if (st_cmp op_gt vGt (se_call (K := K) (ps := ["draft", "kind"]) (m := m_many_unlike) rfl c_many_unlike hr hgd (sa_cons (se_pv 0) (sa_cons (se_pv 3) sa_nil))) (se_pv 4)) (sss_one (ss_ret (sv_d (sd_se (se_call (K := K) (ps := ["draft", "kind", "number"]) (m := m_spread_of) rfl c_spread_of hr hgd (sa_cons (se_pv 0) (sa_cons (se_pv 3) (sa_cons (se_pv 4) sa_nil)))))))) sss_nil))) (sss_one (ss_ret (sv_d (sd_se se_non))))))⟩
theorem g__law_pick {k : Nat} {f : Addr} {fd : FuncData} (F : Fun K "_law_pick" "_law_pick" s__law_pick f fd) (M : Md K mg) {f__law_draw : Addr} {fd__law_draw : FuncData} (c__law_draw : DL.Cal P w K mg base k "_law_draw" ["pot", "many"] m__law_draw f__law_draw fd__law_draw) : FnG P w K mg base (k + 1) f fd ["pot", "some"] m__law_pick :=
  fnG_of F sc__law_pick rfl fun cdv A outer s H hr hgd => ⟨_, (sss_one (ss_ret (sv_d (sd_se (se_ix (opIx rfl) vIx (se_pv 1) (se_call (K := K) (ps := ["pot", "many"]) (m := m__law_draw) rfl c__law_draw hr hgd (sa_cons (se_pv 0) (sa_cons (se_cb (crLen rfl) vLen M.z_len bt_len (sa_cons (se_pv 1) sa_nil)) sa_nil))))))))⟩
theorem g__law_mixed {k : Nat} {f : Addr} {fd : FuncData} (F : Fun K "_law_mixed" "_law_mixed" s__law_mixed f fd) (M : Md K mg) {f__law_draw : Addr} {fd__law_draw : FuncData} (c__law_draw : DL.Cal P w K mg base k "_law_draw" ["pot", "many"] m__law_draw f__law_draw fd__law_draw) : FnG P w K mg base (k + 1) f fd ["pot", "some"] m__law_mixed :=
  fnG_of F sc__law_mixed rfl fun cdv A outer s H hr hgd => ⟨_, (sss_cons (ss_par (i := 2) (j := 3) rfl sc__law_mixed.nd (by decide) (sv_l (sl_ct (crList rfl) vListL M.z_list bt_list (sa_cons (se_pv 1) sa_nil))) (sv_l (sl_lst sa_nil))) (sss_cons (ss_while 100000 PassesOwn.never (st_cmp (opNe rfl hr) vNe (se_pv 2) (se_sl (sl_lst sa_nil))) (sss_one (ss_expr (se_append rfl (se_pv 3) (sa_cons (se_popAt rfl (se_pv 2) (sa_cons (se_call (K := K) (ps := ["pot", "many"]) (m := m__law_draw) rfl c__law_draw hr hgd (sa_cons (se_pv 0) (sa_cons (se_cb (crLen rfl) vLen M.z_len bt_len (sa_cons (se_pv 2) sa_nil)) sa_nil))) sa_nil)) sa_nil))))) (sss_one (ss_retV (se_pv 3)))))⟩
theorem g__law_drawn {k : Nat} {f : Addr} {fd : FuncData} (F : Fun K "_law_drawn" "_law_drawn" s__law_drawn f fd) (M : Md K mg) {f__law_pick : Addr} {fd__law_pick : FuncData} (c__law_pick : DL.Cal P w K mg base k "_law_pick" ["pot", "some"] m__law_pick f__law_pick fd__law_pick) {f__law_mixed : Addr} {fd__law_mixed : FuncData} (c__law_mixed : DL.Cal P w K mg base k "_law_mixed" ["pot", "some"] m__law_mixed f__law_mixed fd__law_mixed) : FnG P w K mg base (k + 1) f fd ["pot", "draft", "number"] m__law_drawn :=
  fnG_of F sc__law_drawn rfl fun cdv A outer s H hr hgd => ⟨_, (sss_cons (ss_set (i := 3) sc__law_drawn.nd (sv_d (sd_se (se_call (K := K) (ps := ["pot", "some"]) (m := m__law_pick) rfl c__law_pick hr hgd (sa_cons (se_pv 0) (sa_cons (se_sl (sl_lst (sa_cons se_str (sa_cons se_str sa_nil)))) sa_nil)))))) (sss_cons (ss_set (i := 4) sc__law_drawn.nd (sv_d (sd_se (se_sl (sl_ct (crList rfl) vListL M.z_list bt_list (sa_cons (se_ix (opIx rfl) vIx (se_pv 1) se_int) sa_nil)))))) (sss_cons (ss_if (st_cmp (opEq rfl hr) vEq (se_pv 3) se_str) (sss_one (ss_set (i := 4) sc__law_drawn.nd (sv_d (sd_se (se_sl (sl_lc [("at", 10)] [10] rfl sc__law_drawn.nd (si_rng1 M.z_range (sa_cons (se_cb (crLen rfl) vLen M.z_len bt_len (sa_cons (se_ix (opIx rfl) vIx (se_ix (opIx rfl) vIx (se_pv 1) se_int) se_int) sa_nil)) sa_nil)) (by kernel_rfl) (fun _ _ _ _ _ => (sg_name (i := 10) sc__law_drawn.nd)) (fun _ _ _ _ _ => sts_nil) (fun _ _ _ _ _ => (sd_se (se_ct (crTuple rfl) vTuple M.z_tuple bt_tuple (sa_cons (se_sl (sl_lc [("row", 13)] [13] rfl sc__law_drawn.nd (si_seq rfl (sd_se (se_ix (opIx rfl) vIx (se_pv 1) se_int))) (by kernel_rfl) (fun _ _ _ _ _ => (sg_name (i := 13) sc__law_drawn.nd)) (fun _ _ _ _ _ => sts_nil) (fun _ _ _ _ _ => (sd_se (se_ix (opIx rfl) vIx (se_pv 13) (se_pv 10)))))) sa_nil)))))))))) sss_nil) (sss_cons (ss_set (i := 5) sc__law_drawn.nd (sv_d (sd_se (se_sl (sl_cb (crSorted rfl) vSortedL M.z_sorted bt_sorted (sa_cons (se_slice rfl (se_call (K := K) (ps := ["pot", "some"]) (m := m__law_mixed) rfl c__law_mixed hr hgd (sa_cons (se_pv 0) (sa_cons (se_sl (sl_listRg rfl M.z_list (srg_1 M.z_range (se_cb (crLen rfl) vLen M.z_len bt_len (sa_cons (se_pv 4) sa_nil))))) sa_nil))) so_none (so_some (se_bin (opAdd rfl) vAdd (se_pv 2) se_int))) sa_nil)))))) (sss_cons (ss_set (i := 6) sc__law_drawn.nd (sv_l (sl_lst sa_nil))) (sss_cons (ss_for PassesOwn.never rfl (si_seq rfl (sd_se (se_pv 5))) (sg_name (i := 7) sc__law_drawn.nd) (sss_one (ss_for PassesOwn.never rfl (si_seq rfl (sd_se (se_sl (sl_lc [("late", 11)] [11] rfl sc__law_drawn.nd (si_seq rfl (sd_se (se_pv 5))) (by kernel_rfl) (fun _ _ _ _ _ => (sg_name (i := 11) sc__law_drawn.nd)) (fun _ _ _ _ _ => (sts_one (st_cmp op_gt vGt (se_pv 11) (se_pv 7)))) (fun _ _ _ _ _ => (sd_se (se_pv 11))))))) (sg_name (i := 8) sc__law_drawn.nd) (sss_cons (ss_setLc (i := 9) true [("at", 10), ("near", 12)] [10, 12] rfl sc__law_drawn.nd (si_enum rfl M.z_enumerate (sa_cons (se_ix (opIx rfl) vIx (se_pv 4) (se_pv 7)) sa_nil)) (by kernel_rfl) (fun _ _ _ _ _ => (sg_tup rfl rfl (sgs_cons (sg_name (i := 10) sc__law_drawn.nd) (sgs_cons (sg_name (i := 12) sc__law_drawn.nd) sgs_nil)))) (fun _ _ _ _ _ => (sts_one (st_cmp (opNe rfl hr) vNe (se_pv 12) (se_ix (opIx rfl) vIx (se_ix (opIx rfl) vIx (se_pv 4) (se_pv 8)) (se_pv 10))))) (fun _ _ _ _ _ => (sd_se (se_pv 10))) (sw_true rfl rfl rfl rfl)) (sss_one (ss_expr (se_append rfl (se_pv 6) (sa_cons (se_tup (sa_cons (se_pv 7) (sa_cons (se_pv 8) (sa_cons (se_call (K := K) (ps := ["pot", "some"]) (m := m__law_pick) rfl c__law_pick hr hgd (sa_cons (se_pv 0) (sa_cons (se_if (st_cmp (opNe rfl hr) vNe (se_pv 9) (se_sl (sl_lst sa_nil))) (se_pv 9) (se_sl (sl_lst (sa_cons se_int sa_nil)))) sa_nil))) sa_nil)))) sa_nil)))))))) (sss_one (ss_ret (sv_d (sd_se (se_tup (sa_cons (se_pv 3) (sa_cons (se_ct (crTuple rfl) vTuple M.z_tuple bt_tuple (sa_cons (se_pv 5) sa_nil)) (sa_cons (se_ct (crTuple rfl) vTuple M.z_tuple bt_tuple (sa_cons (se_pv 6) sa_nil)) sa_nil))))))))))))))⟩
theorem g_numbered {k : Nat} {f : Addr} {fd : FuncData} (F : Fun K "numbered" "numbered" s_numbered f fd) (M : Md K mg) {f_by_first : Addr} {fd_by_first : FuncData} (c_by_first : DL.Cal P w K mg base k "by_first" ["values"] m_by_first f_by_first fd_by_first) : FnG P w K mg base (k + 1) f fd ["values"] m_numbered :=
  fnG_of F sc_numbered rfl fun cdv A outer s H hr hgd => ⟨_, (sss_cons (ss_set (i := 1) sc_numbered.nd (sv_d (sd_se (se_call (K := K) (ps := ["values"]) (m := m_by_first) rfl c_by_first hr hgd (sa_cons (se_pv 0) sa_nil))))) (sss_one (ss_ret (sv_d (sd_se (se_ct (crTuple rfl) vTuple M.z_tuple bt_tuple (sa_cons (se_sl (sl_lc [("one", 2)] [2] rfl sc_numbered.nd (si_seq rfl (sd_se (se_pv 0))) (by kernel_rfl) (fun _ _ _ _ _ => (sg_name (i := 2) sc_numbered.nd)) (fun _ _ _ _ _ => sts_nil) (fun _ _ _ _ _ => (sd_se (se_index rfl hr (se_pv 1) (se_pv 2)))))) sa_nil)))))))⟩
theorem g_told_loom {k : Nat} {f : Addr} {fd : FuncData} (F : Fun K "told_loom" "told_loom" s_told_loom f fd) (M : Md K mg) {f_numbered : Addr} {fd_numbered : FuncData} (c_numbered : DL.Cal P w K mg base k "numbered" ["values"] m_numbered f_numbered fd_numbered) {f_by_first : Addr} {fd_by_first : FuncData} (c_by_first : DL.Cal P w K mg base k "by_first" ["values"] m_by_first f_by_first fd_by_first) {f_columns_of : Addr} {fd_columns_of : FuncData} (c_columns_of : DL.Cal P w K mg base k "columns_of" ["draft"] m_columns_of f_columns_of fd_columns_of) : FnG P w K mg base (k + 1) f fd ["draft"] m_told_loom :=
  fnG_of F sc_told_loom rfl fun cdv A outer s H hr hgd => ⟨_, (sss_cons (ss_asg (sd_se (se_tup (sa_cons (se_call (K := K) (ps := ["draft"]) (m := m_columns_of) rfl c_columns_of hr hgd (sa_cons (se_pv 0) sa_nil)) (sa_cons (se_sl (sl_ct (crList rfl) vListL M.z_list bt_list (sa_cons (se_ix (opIx rfl) vIx (se_pv 0) se_int) sa_nil))) sa_nil)))) (sg_tup rfl rfl (sgs_cons (sg_name (i := 1) sc_told_loom.nd) (sgs_cons (sg_name (i := 2) sc_told_loom.nd) sgs_nil)))) (sss_cons (ss_setLc (i := 3) true [("one", 6)] [6] rfl sc_told_loom.nd (si_seq rfl (sd_se (se_call (K := K) (ps := ["values"]) (m := m_by_first) rfl c_by_first hr hgd (sa_cons (se_pv 1) sa_nil)))) (by kernel_rfl) (fun _ _ _ _ _ => (sg_name (i := 6) sc_told_loom.nd)) (fun _ _ _ _ _ => sts_nil) (fun _ _ _ _ _ => (sd_se (se_index rfl hr (se_pv 1) (se_pv 6)))) (sw_true rfl rfl rfl rfl)) (sss_cons (ss_set (i := 4) sc_told_loom.nd (sv_l (sl_lst sa_nil))) (sss_cons (ss_for PassesOwn.never rfl (si_seq rfl (sd_se (se_call (K := K) (ps := ["values"]) (m := m_by_first) rfl c_by_first hr hgd (sa_cons (se_pv 2) sa_nil)))) (sg_name (i := 5) sc_told_loom.nd) (sss_one (ss_expr (se_append rfl (se_pv 4) (sa_cons (se_ct (crTuple rfl) vTuple M.z_tuple bt_tuple (sa_cons (se_sl (sl_lc [("shaft", 7), ("warp", 8)] [7, 8] rfl sc_told_loom.nd (si_enum rfl M.z_enumerate (sa_cons (se_pv 3) sa_nil)) (by kernel_rfl) (fun _ _ _ _ _ => (sg_tup rfl rfl (sgs_cons (sg_name (i := 7) sc_told_loom.nd) (sgs_cons (sg_name (i := 8) sc_told_loom.nd) sgs_nil)))) (fun _ _ _ _ _ => (sts_one (st_cmp (opEq rfl hr) vEq (se_ix (opIx rfl) vIx (se_pv 5) (se_pv 8)) se_int))) (fun _ _ _ _ _ => (sd_se (se_pv 7))))) sa_nil)) sa_nil))))) (sss_one (ss_ret (sv_d (sd_se (se_tup (sa_cons (se_glob M.c_LOOM) (sa_cons (se_cb (crLen rfl) vLen M.z_len bt_len (sa_cons (se_pv 3) sa_nil)) (sa_cons (se_call (K := K) (ps := ["values"]) (m := m_numbered) rfl c_numbered hr hgd (sa_cons (se_pv 1) sa_nil)) (sa_cons (se_ct (crTuple rfl) vTuple M.z_tuple bt_tuple (sa_cons (se_pv 4) sa_nil)) (sa_cons (se_call (K := K) (ps := ["values"]) (m := m_numbered) rfl c_numbered hr hgd (sa_cons (se_pv 2) sa_nil)) sa_nil))))))))))))))⟩
theorem g_loom_of {k : Nat} {f : Addr} {fd : FuncData} (F : Fun K "loom_of" "loom_of" s_loom_of f fd) (M : Md K mg) {f_told_loom : Addr} {fd_told_loom : FuncData} (c_told_loom : DL.Cal P w K mg base k "told_loom" ["draft"] m_told_loom f_told_loom fd_told_loom) {f_want_draft : Addr} {fd_want_draft : FuncData} (c_want_draft : DL.Cal P w K mg base k "want_draft" ["draft"] m_want_draft f_want_draft fd_want_draft) : FnG P w K mg base (k + 1) f fd ["draft"] m_loom_of :=
  fnG_of F sc_loom_of rfl fun cdv A outer s H hr hgd => ⟨_, (sss_cons (ss_expr (se_call (K := K) (ps := ["draft"]) (m := m_want_draft) rfl c_want_draft hr hgd (sa_cons (se_pv 0) sa_nil))) (sss_one (ss_ret (sv_d (sd_se (se_call (K := K) (ps := ["draft"]) (m := m_told_loom) rfl c_told_loom hr hgd (sa_cons (se_pv 0) sa_nil)))))))⟩
theorem g__law_looms {k : Nat} {f : Addr} {fd : FuncData} (F : Fun K "_law_looms" "_law_looms" s__law_looms f fd) (M : Md K mg) {f_loom_of : Addr} {fd_loom_of : FuncData} (c_loom_of : DL.Cal P w K mg base k "loom_of" ["draft"] m_loom_of f_loom_of fd_loom_of) {f__law_draw : Addr} {fd__law_draw : FuncData} (c__law_draw : DL.Cal P w K mg base k "_law_draw" ["pot", "many"] m__law_draw f__law_draw fd__law_draw) : FnG P w K mg base (k + 1) f fd ["pot", "loom", "draft"] m__law_looms :=
  fnG_of F sc__law_looms rfl fun cdv A outer s H hr hgd => ⟨_, (sss_cons (ss_set (i := 3) sc__law_looms.nd (sv_d (sd_se (se_call (K := K) (ps := ["pot", "many"]) (m := m__law_draw) rfl c__law_draw hr hgd (sa_cons (se_pv 0) (sa_cons (se_cb (crLen rfl) vLen M.z_len bt_len (sa_cons (se_ix (opIx rfl) vIx (se_pv 1) se_int) sa_nil)) sa_nil)))))) (sss_cons (ss_set (i := 4) sc__law_looms.nd (sv_d (sd_se (se_call (K := K) (ps := ["pot", "many"]) (m := m__law_draw) rfl c__law_draw hr hgd (sa_cons (se_pv 0) (sa_cons (se_ix (opIx rfl) vIx (se_pv 1) se_int) sa_nil)))))) (sss_cons (ss_set (i := 5) sc__law_looms.nd (sv_d (sd_se (se_ix (opIx rfl) vIx (se_ix (opIx rfl) vIx (se_pv 1) se_int) (se_pv 3))))) (sss_cons (ss_set (i := 6) sc__law_looms.nd (sv_d (sd_se (se_if (st_cmp (opNotIn rfl hr) vNotIn (se_pv 4) (se_pv 5)) (se_ct (crTuple rfl) vTuple M.z_tuple bt_tuple (sa_cons (se_sl (sl_cb (crSorted rfl) vSortedL M.z_sorted bt_sorted (sa_cons (se_bin (opAdd rfl) vAdd (se_pv 5) (se_tup (sa_cons (se_pv 4) sa_nil))) sa_nil))) sa_nil)) (se_ct (crTuple rfl) vTuple M.z_tuple bt_tuple (sa_cons (se_sl (sl_lc [("one", 8)] [8] rfl sc__law_looms.nd (si_seq rfl (sd_se (se_pv 5))) (by kernel_rfl) (fun _ _ _ _ _ => (sg_name (i := 8) sc__law_looms.nd)) (fun _ _ _ _ _ => (sts_one (st_cmp (opNe rfl hr) vNe (se_pv 8) (se_pv 4)))) (fun _ _ _ _ _ => (sd_se (se_pv 8))))) sa_nil)))))) (sss_cons (ss_set (i := 7) sc__law_looms.nd (sv_d (sd_se (se_sl (sl_lst (sa_cons (se_pv 1) (sa_cons (se_call (K := K) (ps := ["draft"]) (m := m_loom_of) rfl c_loom_of hr hgd (sa_cons (se_pv 2) sa_nil)) (sa_cons (se_bin (opAdd rfl) vAdd (se_bin (opAdd rfl) vAdd (se_slice rfl (se_pv 1) so_none (so_some se_int)) (se_tup (sa_cons (se_bin (opAdd rfl) vAdd (se_bin (opAdd rfl) vAdd (se_slice rfl (se_ix (opIx rfl) vIx (se_pv 1) se_int) so_none (so_some (se_pv 3))) (se_tup (sa_cons (se_pv 6) sa_nil))) (se_slice rfl (se_ix (opIx rfl) vIx (se_pv 1) se_int) (so_some (se_bin (opAdd rfl) vAdd (se_pv 3) se_int)) so_none)) sa_nil))) (se_slice rfl (se_pv 1) (so_some se_int) so_none)) (sa_cons (se_sl (sl_ct (crList rfl) vListL M.z_list bt_list (sa_cons (se_pv 1) sa_nil))) sa_nil))))))))) (sss_cons (ss_set (i := 7) sc__law_looms.nd (sv_d (sd_se (se_bin (opAdd rfl) vAdd (se_pv 7) (se_sl (sl_lst (sa_cons se_non (sa_cons (se_pv 2) (sa_cons (se_bin (opAdd rfl) vAdd (se_bin (opAdd rfl) vAdd (se_slice rfl (se_pv 1) so_none (so_some se_int)) (se_tup (sa_cons (se_bin (opAdd rfl) vAdd (se_ix (opIx rfl) vIx (se_pv 1) se_int) se_int) sa_nil))) (se_slice rfl (se_pv 1) (so_some se_int) so_none)) (sa_cons (se_slice rfl (se_pv 1) so_none (so_some se_int)) (sa_cons (se_tup sa_nil) (sa_cons se_int sa_nil)))))))))))) (sss_one (ss_ret (sv_d (sd_se (se_bin (opAdd rfl) vAdd (se_pv 7) (se_sl (sl_lst (sa_cons (se_bin (opAdd rfl) vAdd (se_bin (opAdd rfl) vAdd (se_slice rfl (se_pv 1) so_none (so_some se_int)) (se_tup (sa_cons (se_bin (opAdd rfl) vAdd (se_ix (opIx rfl) vIx (se_pv 1) se_int) (se_tup (sa_cons (se_pv 5) sa_nil))) sa_nil))) (se_slice rfl (se_pv 1) (so_some se_int) so_none)) (sa_cons (se_bin (opAdd rfl) vAdd (se_bin (opAdd rfl) vAdd (se_slice rfl (se_pv 1) so_none (so_some se_int)) (se_tup (sa_cons (se_rev rfl (se_ix (opIx rfl) vIx (se_pv 1) se_int)) sa_nil))) (se_slice rfl (se_pv 1) (so_some se_int) so_none)) sa_nil)))))))))))))))⟩
theorem g_are_rising {k : Nat} {f : Addr} {fd : FuncData} (F : Fun K "are_rising" "are_rising" s_are_rising f fd) (M : Md K mg) : FnG P w K mg base (k + 1) f fd ["values"] m_are_rising :=
  fnG_of F sc_are_rising rfl fun cdv A outer s H hr hgd => ⟨_, (sss_one (ss_ret (sv_d (sd_se (se_cb (crAll rfl rfl) vAll M.z_all bt_all (sa_cons (se_sl (sl_lc [("near", 1), ("far", 2)] [1, 2] rfl sc_are_rising.nd (si_zip rfl M.z_zip (sa_cons (se_pv 0) (sa_cons (se_slice rfl (se_pv 0) (so_some se_int) so_none) sa_nil))) (by kernel_rfl) (fun _ _ _ _ _ => (sg_tup rfl rfl (sgs_cons (sg_name (i := 1) sc_are_rising.nd) (sgs_cons (sg_name (i := 2) sc_are_rising.nd) sgs_nil)))) (fun _ _ _ _ _ => sts_nil) (fun _ _ _ _ _ => (sd_se (se_cmp op_lt vLt (se_pv 1) (se_pv 2)))))) sa_nil))))))⟩
theorem g_is_lot_of {k : Nat} {f : Addr} {fd : FuncData} (F : Fun K "is_lot_of" "is_lot_of" s_is_lot_of f fd) (M : Md K mg) {f_are_rising : Addr} {fd_are_rising : FuncData} (c_are_rising : DL.Cal P w K mg base k "are_rising" ["values"] m_are_rising f_are_rising fd_are_rising) {f_is_within : Addr} {fd_is_within : FuncData} (c_is_within : DL.Cal P w K mg base k "is_within" ["value", "least", "most"] m_is_within f_is_within fd_is_within) : FnG P w K mg base (k + 1) f fd ["value", "many"] m_is_lot_of :=
  fnG_of F sc_is_lot_of rfl fun cdv A outer s H hr hgd => ⟨_, (sss_one (ss_ret (sv_d (sd_se (se_and (se_isi (T := .tuple) rfl nofun M.z_isinstance M.z_tuple bt_tuple (se_pv 0)) (se_and (se_cb (crAll rfl rfl) vAll M.z_all bt_all (sa_cons (se_sl (sl_lc [("one", 2)] [2] rfl sc_is_lot_of.nd (si_seq rfl (sd_se (se_pv 0))) (by kernel_rfl) (fun _ _ _ _ _ => (sg_name (i := 2) sc_is_lot_of.nd)) (fun _ _ _ _ _ => sts_nil) (fun _ _ _ _ _ => (sd_se (se_call (K := K) (ps := ["value", "least", "most"]) (m := m_is_within) rfl c_is_within hr hgd (sa_cons (se_pv 2) (sa_cons se_int (sa_cons (se_bin op_sub vSub (se_pv 1) se_int) sa_nil)))))))) sa_nil)) (se_one (se_call (K := K) (ps := ["values"]) (m := m_are_rising) rfl c_are_rising hr hgd (sa_cons (se_pv 0) sa_nil)))))))))⟩
theorem g_is_place_of {k : Nat} {f : Addr} {fd : FuncData} (F : Fun K "is_place_of" "is_place_of" s_is_place_of f fd) (M : Md K mg) {f_is_within : Addr} {fd_is_within : FuncData} (c_is_within : DL.Cal P w K mg base k "is_within" ["value", "least", "most"] m_is_within f_is_within fd_is_within) {f_is_tuple : Addr} {fd_is_tuple : FuncData} (c_is_tuple : DL.Cal P w K mg base k "is_tuple" ["value", "many"] m_is_tuple f_is_tuple fd_is_tuple) : FnG P w K mg base (k + 1) f fd ["lines", "value", "pair"] m_is_place_of :=
  fnG_of F sc_is_place_of rfl fun cdv A outer s H hr hgd => ⟨_, (sss_cons (ss_if (st_sw (sw_or (st_not (st_val (se_call (K := K) (ps := ["value", "many"]) (m := m_is_tuple) rfl c_is_tuple hr hgd (sa_cons (se_pv 1) (sa_cons se_int sa_nil))))) (sw_or1 (st_not (st_val (se_call (K := K) (ps := ["value", "least", "most"]) (m := m_is_within) rfl c_is_within hr hgd (sa_cons (se_ix (opIx rfl) vIx (se_pv 1) se_int) (sa_cons se_int (sa_cons (se_bin op_sub vSub (se_cb (crLen rfl) vLen M.z_len bt_len (sa_cons (se_ix (opIx rfl) vIx (se_pv 0) se_int) sa_nil)) se_int) sa_nil))))))))) (sss_one (ss_ret (sv_d (sd_se se_bl)))) sss_nil) (sss_cons (ss_if (st_sw (sw_or (st_not (st_val (se_cb (crAll rfl rfl) vAll M.z_all bt_all (sa_cons (se_sl (sl_lc [("one", 3)] [3] rfl sc_is_place_of.nd (si_seq rfl (sd_se (se_slice rfl (se_pv 1) so_none (so_some se_int)))) (by kernel_rfl) (fun _ _ _ _ _ => (sg_name (i := 3) sc_is_place_of.nd)) (fun _ _ _ _ _ => sts_nil) (fun _ _ _ _ _ => (sd_se (se_call (K := K) (ps := ["value", "least", "most"]) (m := m_is_within) rfl c_is_within hr hgd (sa_cons (se_pv 3) (sa_cons se_int (sa_cons (se_bin op_sub vSub (se_cb (crLen rfl) vLen M.z_len bt_len (sa_cons (se_pv 0) sa_nil)) se_int) sa_nil)))))))) sa_nil)))) (sw_or1 (st_cmp (opNe rfl hr) vNe (se_slice rfl (se_pv 1) so_none (so_some se_int)) (se_pv 2))))) (sss_one (ss_ret (sv_d (sd_se se_bl)))) sss_nil) (sss_one (ss_ret (sv_d (sd_se (se_cmp (opNe rfl hr) vNe (se_ix (opIx rfl) vIx (se_ix (opIx rfl) vIx (se_pv 0) (se_ix (opIx rfl) vIx (se_pv 2) se_int)) (se_ix (opIx rfl) vIx (se_pv 1) se_int)) (se_ix (opIx rfl) vIx (se_ix (opIx rfl) vIx (se_pv 0) (se_ix (opIx rfl) vIx (se_pv 2) se_int)) (se_ix (opIx rfl) vIx (se_pv 1) se_int)))))))))⟩
theorem g_is_spread {k : Nat} {f : Addr} {fd : FuncData} (F : Fun K "is_spread" "is_spread" s_is_spread f fd) (M : Md K mg) {f_is_place_of : Addr} {fd_is_place_of : FuncData} (c_is_place_of : DL.Cal P w K mg base k "is_place_of" ["lines", "value", "pair"] m_is_place_of f_is_place_of fd_is_place_of) {f_is_tuple : Addr} {fd_is_tuple : FuncData} (c_is_tuple : DL.Cal P w K mg base k "is_tuple" ["value", "many"] m_is_tuple f_is_tuple fd_is_tuple) {f_pairs_of : Addr} {fd_pairs_of : FuncData} (c_pairs_of : DL.Cal P w K mg base k "pairs_of" ["numbers"] m_pairs_of f_pairs_of fd_pairs_of) {f_is_lot_of : Addr} {fd_is_lot_of : FuncData} (c_is_lot_of : DL.Cal P w K mg base k "is_lot_of" ["value", "many"] m_is_lot_of f_is_lot_of fd_is_lot_of) {f_lines_of : Addr} {fd_lines_of : FuncData} (c_lines_of : DL.Cal P w K mg base k "lines_of" ["draft", "kind"] m_lines_of f_lines_of fd_lines_of) {f_want_numbers : Addr} {fd_want_numbers : FuncData} (c_want_numbers : DL.Cal P w K mg base k "want_numbers" ["draft", "shafts", "treadles"] m_want_numbers f_want_numbers fd_want_numbers) : FnG P w K mg base (k + 1) f fd ["draft", "shafts", "treadles", "value"] m_is_spread :=
  fnG_of F sc_is_spread rfl fun cdv A outer s H hr hgd => ⟨_, (sss_cons (ss_expr (se_call (K := K) (ps := ["draft", "shafts", "treadles"]) (m := m_want_numbers) rfl c_want_numbers hr hgd (sa_cons (se_pv 0) (sa_cons (se_pv 1) (sa_cons (se_pv 2) sa_nil))))) (sss_cons (ss_if (st_sw (sw_or (st_not (st_val (se_call (K := K) (ps := ["value", "many"]) (m := m_is_tuple) rfl c_is_tuple hr hgd (sa_cons (se_pv 3) (sa_cons se_int sa_nil))))) (sw_or (st_not (st_val (se_isi (T := .str) rfl nofun M.z_isinstance M.z_str bt_str (se_ix (opIx rfl) vIx (se_pv 3) se_int)))) (sw_or1 (st_cmp (opNotIn rfl hr) vNotIn (se_ix (opIx rfl) vIx (se_pv 3) se_int) (se_tup (sa_cons (se_glob M.c_WARP) (sa_cons (se_glob M.c_WEFT) sa_nil)))))))) (sss_one (ss_ret (sv_d (sd_se se_bl)))) sss_nil) (sss_cons (ss_asg (sd_se (se_tup (sa_cons (se_call (K := K) (ps := ["draft", "kind"]) (m := m_lines_of) rfl c_lines_of hr hgd (sa_cons (se_pv 0) (sa_cons (se_ix (opIx rfl) vIx (se_pv 3) se_int) sa_nil))) (sa_cons (se_if (st_cmp (opEq rfl hr) vEq (se_ix (opIx rfl) vIx (se_pv 3) se_int) (se_glob M.c_WARP)) (se_pv 1) (se_pv 2)) sa_nil)))) (sg_tup rfl rfl (sgs_cons (sg_name (i := 4) sc_is_spread.nd) (sgs_cons (sg_name (i := 5) sc_is_spread.nd) sgs_nil)))) (sss_cons (ss_if (st_sw (sw_or (st_not (st_val (se_call (K := K) (ps := ["value", "many"]) (m := m_is_lot_of) rfl c_is_lot_of hr hgd (sa_cons (se_ix (opIx rfl) vIx (se_pv 3) se_int) (sa_cons (se_cb (crLen rfl) vLen M.z_len bt_len (sa_cons (se_pv 4) sa_nil)) sa_nil))))) (sw_or1 (st_cmp op_le vLe (se_cb (crLen rfl) vLen M.z_len bt_len (sa_cons (se_ix (opIx rfl) vIx (se_pv 3) se_int) sa_nil)) (se_pv 5))))) (sss_one (ss_ret (sv_d (sd_se se_bl)))) sss_nil) (sss_cons (ss_set (i := 6) sc_is_spread.nd (sv_d (sd_se (se_call (K := K) (ps := ["numbers"]) (m := m_pairs_of) rfl c_pairs_of hr hgd (sa_cons (se_sl (sl_ct (crList rfl) vListL M.z_list bt_list (sa_cons (se_ix (opIx rfl) vIx (se_pv 3) se_int) sa_nil))) sa_nil))))) (sss_cons (ss_if (st_not (st_val (se_call (K := K) (ps := ["value", "many"]) (m := m_is_tuple) rfl c_is_tuple hr hgd (sa_cons (se_ix (opIx rfl) vIx (se_pv 3) se_int) (sa_cons (se_cb (crLen rfl) vLen M.z_len bt_len (sa_cons (se_pv 6) sa_nil)) sa_nil))))) (sss_one (ss_ret (sv_d (sd_se se_bl)))) sss_nil) (sss_one (ss_ret (sv_d (sd_se (se_cb (crAll rfl rfl) vAll M.z_all bt_all (sa_cons (se_sl (sl_lc [("one", 7), ("pair", 8)] [7, 8] rfl sc_is_spread.nd (si_zip rfl M.z_zip (sa_cons (se_ix (opIx rfl) vIx (se_pv 3) se_int) (sa_cons (se_pv 6) sa_nil))) (by kernel_rfl) (fun _ _ _ _ _ => (sg_tup rfl rfl (sgs_cons (sg_name (i := 7) sc_is_spread.nd) (sgs_cons (sg_name (i := 8) sc_is_spread.nd) sgs_nil)))) (fun _ _ _ _ _ => sts_nil) (fun _ _ _ _ _ => (sd_se (se_call (K := K) (ps := ["lines", "value", "pair"]) (m := m_is_place_of) rfl c_is_place_of hr hgd (sa_cons (se_pv 4) (sa_cons (se_pv 7) (sa_cons (se_pv 8) sa_nil)))))))) sa_nil))))))))))))⟩
theorem g_plan_of {k : Nat} {f : Addr} {fd : FuncData} (F : Fun K "plan_of" "plan_of" s_plan_of f fd) (M : Md K mg) : FnG P w K mg base (k + 1) f fd ["loom"] m_plan_of :=
  fnG_of F sc_plan_of rfl fun cdv A outer s H hr hgd => ⟨_, (sss_one (ss_ret (sv_d (sd_se (se_ct (crTuple rfl) vTuple M.z_tuple bt_tuple (sa_cons (se_sl (sl_lc [("treadle", 1)] [1] rfl sc_plan_of.nd (si_seq rfl (sd_se (se_ix (opIx rfl) vIx (se_pv 0) se_int))) (by kernel_rfl) (fun _ _ _ _ _ => (sg_name (i := 1) sc_plan_of.nd)) (fun _ _ _ _ _ => sts_nil) (fun _ _ _ _ _ => (sd_se (se_ix (opIx rfl) vIx (se_ix (opIx rfl) vIx (se_pv 0) se_int) (se_pv 1)))))) sa_nil))))))⟩
theorem g_woven_by {k : Nat} {f : Addr} {fd : FuncData} (F : Fun K "woven_by" "woven_by" s_woven_by f fd) (M : Md K mg) {f_plan_of : Addr} {fd_plan_of : FuncData} (c_plan_of : DL.Cal P w K mg base k "plan_of" ["loom"] m_plan_of f_plan_of fd_plan_of) : FnG P w K mg base (k + 1) f fd ["loom"] m_woven_by :=
  fnG_of F sc_woven_by rfl fun cdv A outer s H hr hgd => ⟨_, (sss_one (ss_ret (sv_d (sd_se (se_tup (sa_cons se_str (sa_cons (se_ct (crTuple rfl) vTuple M.z_tuple bt_tuple (sa_cons (se_sl (sl_lc [("lift", 1)] [1] rfl sc_woven_by.nd (si_seq rfl (sd_se (se_call (K := K) (ps := ["loom"]) (m := m_plan_of) rfl c_plan_of hr hgd (sa_cons (se_pv 0) sa_nil)))) (by kernel_rfl) (fun _ _ _ _ _ => (sg_name (i := 1) sc_woven_by.nd)) (fun _ _ _ _ _ => sts_nil) (fun _ _ _ _ _ => (sd_se (se_ct (crTuple rfl) vTuple M.z_tuple bt_tuple (sa_cons (se_sl (sl_lc [("shaft", 2)] [2] rfl sc_woven_by.nd (si_seq rfl (sd_se (se_ix (opIx rfl) vIx (se_pv 0) se_int))) (by kernel_rfl) (fun _ _ _ _ _ => (sg_name (i := 2) sc_woven_by.nd)) (fun _ _ _ _ _ => sts_nil) (fun _ _ _ _ _ => (sd_se (se_ct crInt vInt M.z_int bt_int (sa_cons (se_cmp (opIn rfl hr) vIn (se_pv 2) (se_pv 1)) sa_nil)))))) sa_nil)))))) sa_nil)) sa_nil)))))))⟩
theorem g_are_numbers {k : Nat} {f : Addr} {fd : FuncData} (F : Fun K "are_numbers" "are_numbers" s_are_numbers f fd) (M : Md K mg) {f_is_within : Addr} {fd_is_within : FuncData} (c_is_within : DL.Cal P w K mg base k "is_within" ["value", "least", "most"] m_is_within f_is_within fd_is_within) : FnG P w K mg base (k + 1) f fd ["value", "many"] m_are_numbers :=
  fnG_of F sc_are_numbers rfl fun cdv A outer s H hr hgd => ⟨_, (sss_cons (ss_if (st_sw (sw_or (st_not (st_val (se_isi (T := .tuple) rfl nofun M.z_isinstance M.z_tuple bt_tuple (se_pv 0)))) (sw_or1 (st_not (st_chain op_le vLe op_le vLe se_int (se_cb (crLen rfl) vLen M.z_len bt_len (sa_cons (se_pv 0) sa_nil)) (se_glob M.c_MOST)))))) (sss_one (ss_ret (sv_d (sd_se se_bl)))) sss_nil) (sss_one (ss_ret (sv_d (sd_se (se_cb (crAll rfl rfl) vAll M.z_all bt_all (sa_cons (se_sl (sl_lc [("one", 2)] [2] rfl sc_are_numbers.nd (si_seq rfl (sd_se (se_pv 0))) (by kernel_rfl) (fun _ _ _ _ _ => (sg_name (i := 2) sc_are_numbers.nd)) (fun _ _ _ _ _ => sts_nil) (fun _ _ _ _ _ => (sd_se (se_call (K := K) (ps := ["value", "least", "most"]) (m := m_is_within) rfl c_is_within hr hgd (sa_cons (se_pv 2) (sa_cons se_int (sa_cons (se_bin op_sub vSub (se_pv 1) se_int) sa_nil)))))))) sa_nil)))))))⟩
theorem g_are_lifts {k : Nat} {f : Addr} {fd : FuncData} (F : Fun K "are_lifts" "are_lifts" s_are_lifts f fd) (M : Md K mg) {f_is_lot_of : Addr} {fd_is_lot_of : FuncData} (c_is_lot_of : DL.Cal P w K mg base k "is_lot_of" ["value", "many"] m_is_lot_of f_is_lot_of fd_is_lot_of) : FnG P w K mg base (k + 1) f fd ["value", "shafts"] m_are_lifts :=
  fnG_of F sc_are_lifts rfl fun cdv A outer s H hr hgd => ⟨_, (sss_one (ss_ret (sv_d (sd_se (se_and (se_isi (T := .tuple) rfl nofun M.z_isinstance M.z_tuple bt_tuple (se_pv 0)) (se_and (se_chain op_le vLe op_le vLe se_int (se_cb (crLen rfl) vLen M.z_len bt_len (sa_cons (se_pv 0) sa_nil)) (se_glob M.c_MOST)) (se_one (se_cb (crAll rfl rfl) vAll M.z_all bt_all (sa_cons (se_sl (sl_lc [("one", 2)] [2] rfl sc_are_lifts.nd (si_seq rfl (sd_se (se_pv 0))) (by kernel_rfl) (fun _ _ _ _ _ => (sg_name (i := 2) sc_are_lifts.nd)) (fun _ _ _ _ _ => sts_nil) (fun _ _ _ _ _ => (sd_se (se_call (K := K) (ps := ["value", "many"]) (m := m_is_lot_of) rfl c_is_lot_of hr hgd (sa_cons (se_pv 2) (sa_cons (se_pv 1) sa_nil))))))) sa_nil)))))))))⟩
theorem g_is_loom_value {k : Nat} {f : Addr} {fd : FuncData} (F : Fun K "is_loom_value" "is_loom_value" s_is_loom_value f fd) (M : Md K mg) {f_are_numbers : Addr} {fd_are_numbers : FuncData} (c_are_numbers : DL.Cal P w K mg base k "are_numbers" ["value", "many"] m_are_numbers f_are_numbers fd_are_numbers) {f_are_lifts : Addr} {fd_are_lifts : FuncData} (c_are_lifts : DL.Cal P w K mg base k "are_lifts" ["value", "shafts"] m_are_lifts f_are_lifts fd_are_lifts) {f_is_within : Addr} {fd_is_within : FuncData} (c_is_within : DL.Cal P w K mg base k "is_within" ["value", "least", "most"] m_is_within f_is_within fd_is_within) {f_is_tuple : Addr} {fd_is_tuple : FuncData} (c_is_tuple : DL.Cal P w K mg base k "is_tuple" ["value", "many"] m_is_tuple f_is_tuple fd_is_tuple) : FnG P w K mg base (k + 1) f fd ["value"] m_is_loom_value :=
  fnG_of F sc_is_loom_value rfl fun cdv A outer s H hr hgd => ⟨_, (sss_cons (ss_if (st_sw (sw_or (st_not (st_val (se_call (K := K) (ps := ["value", "many"]) (m := m_is_tuple) rfl c_is_tuple hr hgd (sa_cons (se_pv 0) (sa_cons se_int sa_nil))))) (sw_or (st_not (st_val (se_isi (T := .str) rfl nofun M.z_isinstance M.z_str bt_str (se_ix (opIx rfl) vIx (se_pv 0) se_int)))) (sw_or1 (st_cmp (opNe rfl hr) vNe (se_ix (opIx rfl) vIx (se_pv 0) se_int) (se_glob M.c_LOOM)))))) (sss_one (ss_ret (sv_d (sd_se se_bl)))) sss_nil) (sss_cons (ss_if (st_not (st_val (se_call (K := K) (ps := ["value", "least", "most"]) (m := m_is_within) rfl c_is_within hr hgd (sa_cons (se_ix (opIx rfl) vIx (se_pv 0) se_int) (sa_cons se_int (sa_cons (se_glob M.c_MOST) sa_nil)))))) (sss_one (ss_ret (sv_d (sd_se se_bl)))) sss_nil) (sss_cons (ss_if (st_sw (sw_or (st_not (st_val (se_call (K := K) (ps := ["value", "many"]) (m := m_are_numbers) rfl c_are_numbers hr hgd (sa_cons (se_ix (opIx rfl) vIx (se_pv 0) se_int) (sa_cons (se_ix (opIx rfl) vIx (se_pv 0) se_int) sa_nil))))) (sw_or1 (st_not (st_val (se_call (K := K) (ps := ["value", "shafts"]) (m := m_are_lifts) rfl c_are_lifts hr hgd (sa_cons (se_ix (opIx rfl) vIx (se_pv 0) se_int) (sa_cons (se_ix (opIx rfl) vIx (se_pv 0) se_int) sa_nil)))))))) (sss_one (ss_ret (sv_d (sd_se se_bl)))) sss_nil) (sss_one (ss_ret (sv_d (sd_se (se_call (K := K) (ps := ["value", "many"]) (m := m_are_numbers) rfl c_are_numbers hr hgd (sa_cons (se_ix (opIx rfl) vIx (se_pv 0) se_int) (sa_cons (se_cb (crLen rfl) vLen M.z_len bt_len (sa_cons (se_ix (opIx rfl) vIx (se_pv 0) se_int) sa_nil)) sa_nil))))))))))⟩
theorem g_is_loom_within {k : Nat} {f : Addr} {fd : FuncData} (F : Fun K "is_loom_within" "is_loom_within" s_is_loom_within f fd) (M : Md K mg) {f_woven_by : Addr} {fd_woven_by : FuncData} (c_woven_by : DL.Cal P w K mg base k "woven_by" ["loom"] m_woven_by f_woven_by fd_woven_by) {f_is_loom_value : Addr} {fd_is_loom_value : FuncData} (c_is_loom_value : DL.Cal P w K mg base k "is_loom_value" ["value"] m_is_loom_value f_is_loom_value fd_is_loom_value) {f_want_numbers : Addr} {fd_want_numbers : FuncData} (c_want_numbers : DL.Cal P w K mg base k "want_numbers" ["draft", "shafts", "treadles"] m_want_numbers f_want_numbers fd_want_numbers) : FnG P w K mg base (k + 1) f fd ["draft", "shafts", "treadles", "value"] m_is_loom_within :=
  fnG_of F sc_is_loom_within rfl fun cdv A outer s H hr hgd => ⟨_, (sss_cons (ss_expr (se_call (K := K) (ps := ["draft", "shafts", "treadles"]) (m := m_want_numbers) rfl c_want_numbers hr hgd (sa_cons (se_pv 0) (sa_cons (se_pv 1) (sa_cons (se_pv 2) sa_nil))))) (sss_cons (ss_if (st_sw (sw_or (st_not (st_val (se_call (K := K) (ps := ["value"]) (m := m_is_loom_value) rfl c_is_loom_value hr hgd (sa_cons (se_pv 3) sa_nil)))) (sw_or (st_cmp op_gt vGt (se_ix (opIx rfl) vIx (se_pv 3) se_int) (se_pv 1)) (sw_or1 (st_cmp op_gt vGt (se_cb (crLen rfl) vLen M.z_len bt_len (sa_cons (se_ix (opIx rfl) vIx (se_pv 3) se_int) sa_nil)) (se_pv 2)))))) (sss_one (ss_ret (sv_d (sd_se se_bl)))) sss_nil) (sss_one (ss_ret (sv_d (sd_se (se_cmp (opEq rfl hr) vEq (se_call (K := K) (ps := ["loom"]) (m := m_woven_by) rfl c_woven_by hr hgd (sa_cons (se_pv 3) sa_nil)) (se_pv 0))))))))⟩
theorem g__law_bent {k : Nat} {f : Addr} {fd : FuncData} (F : Fun K "_law_bent" "_law_bent" s__law_bent f fd) (M : Md K mg) {f__law_pick : Addr} {fd__law_pick : FuncData} (c__law_pick : DL.Cal P w K mg base k "_law_pick" ["pot", "some"] m__law_pick f__law_pick fd__law_pick) {f__law_draw : Addr} {fd__law_draw : FuncData} (c__law_draw : DL.Cal P w K mg base k "_law_draw" ["pot", "many"] m__law_draw f__law_draw fd__law_draw) : FnG P w K mg base (k + 1) f fd ["pot", "value"] m__law_bent :=
  fnG_of F sc__law_bent rfl fun cdv A outer s H hr hgd => ⟨_, (sss_cons (ss_asg (sd_se (se_pv 1)) (sg_tup rfl rfl (sgs_cons (sg_name (i := 2) sc__law_bent.nd) (sgs_cons (sg_name (i := 3) sc__law_bent.nd) (sgs_cons (sg_name (i := 4) sc__law_bent.nd) sgs_nil))))) (sss_cons (ss_if (st_sw (sw_or (st_cmp (opEq rfl hr) vEq (se_cb (crLen rfl) vLen M.z_len bt_len (sa_cons (se_pv 4) sa_nil)) se_int) (sw_or1 (st_cmp (opEq rfl hr) vEq (se_call (K := K) (ps := ["pot", "many"]) (m := m__law_draw) rfl c__law_draw hr hgd (sa_cons (se_pv 0) (sa_cons se_int sa_nil))) se_int)))) (sss_cons (ss_set (i := 5) sc__law_bent.nd (sv_d (sd_se (se_call (K := K) (ps := ["pot", "some"]) (m := m__law_pick) rfl c__law_pick hr hgd (sa_cons (se_pv 0) (sa_cons (se_sl (sl_lst (sa_cons se_str (sa_cons se_str (sa_cons se_str (sa_cons se_non (sa_cons se_int sa_nil))))))) sa_nil)))))) (sss_cons (ss_set (i := 6) sc__law_bent.nd (sv_d (sd_se (se_sl (sl_lst (sa_cons (se_slice rfl (se_pv 3) (so_some se_int) so_none) (sa_cons (se_bin (opAdd rfl) vAdd (se_pv 3) (se_tup (sa_cons se_int sa_nil))) (sa_cons (se_rev rfl (se_pv 3)) (sa_cons (se_sl (sl_ct (crList rfl) vListL M.z_list bt_list (sa_cons (se_pv 3) sa_nil))) (sa_cons (se_bin (opAdd rfl) vAdd (se_pv 3) (se_slice rfl (se_pv 3) so_none (so_some se_int))) (sa_cons (se_tup sa_nil) (sa_cons (se_bin (opAdd rfl) vAdd (se_tup (sa_cons se_bl sa_nil)) (se_slice rfl (se_pv 3) (so_some se_int) so_none)) sa_nil)))))))))))) (sss_cons (ss_set (i := 7) sc__law_bent.nd (sv_d (sd_se (se_call (K := K) (ps := ["pot", "some"]) (m := m__law_pick) rfl c__law_pick hr hgd (sa_cons (se_pv 0) (sa_cons (se_pv 6) sa_nil)))))) (sss_cons (ss_set (i := 8) sc__law_bent.nd (sv_d (sd_se (se_sl (sl_lst (sa_cons (se_tup (sa_cons (se_pv 5) (sa_cons (se_pv 3) (sa_cons (se_pv 4) sa_nil)))) (sa_cons (se_tup (sa_cons (se_pv 2) (sa_cons (se_pv 7) (sa_cons (se_pv 4) sa_nil)))) (sa_cons (se_tup (sa_cons (se_pv 2) (sa_cons se_non (sa_cons (se_pv 4) sa_nil)))) (sa_cons (se_tup (sa_cons (se_pv 2) (sa_cons (se_pv 3) (sa_cons (se_sl (sl_ct (crList rfl) vListL M.z_list bt_list (sa_cons (se_pv 4) sa_nil))) sa_nil)))) sa_nil))))))))) (sss_one (ss_ret (sv_d (sd_se (se_call (K := K) (ps := ["pot", "some"]) (m := m__law_pick) rfl c__law_pick hr hgd (sa_cons (se_pv 0) (sa_cons (se_bin (opAdd rfl) vAdd (se_pv 8) (se_sl (sl_lst (sa_cons (se_slice rfl (se_pv 1) so_none (so_some se_int)) (sa_cons (se_sl (sl_ct (crList rfl) vListL M.z_list bt_list (sa_cons (se_pv 1) sa_nil))) (sa_cons se_non sa_nil)))))) sa_nil))))))))))) sss_nil) (sss_cons (ss_set (i := 9) sc__law_bent.nd (sv_d (sd_se (se_call (K := K) (ps := ["pot", "many"]) (m := m__law_draw) rfl c__law_draw hr hgd (sa_cons (se_pv 0) (sa_cons (se_cb (crLen rfl) vLen M.z_len bt_len (sa_cons (se_pv 4) sa_nil)) sa_nil)))))) (sss_cons (ss_asg (sd_se (se_ix (opIx rfl) vIx (se_pv 4) (se_pv 9))) (sg_tup rfl rfl (sgs_cons (sg_name (i := 10) sc__law_bent.nd) (sgs_cons (sg_name (i := 11) sc__law_bent.nd) (sgs_cons (sg_name (i := 12) sc__law_bent.nd) sgs_nil))))) (sss_cons (ss_set (i := 13) sc__law_bent.nd (sv_d (sd_se (se_call (K := K) (ps := ["pot", "some"]) (m := m__law_pick) rfl c__law_pick hr hgd (sa_cons (se_pv 0) (sa_cons (se_sl (sl_lst (sa_cons se_non (sa_cons se_bl (sa_cons (se_un un_neg vNeg se_int) (sa_cons se_int (sa_cons se_int (sa_cons se_int (sa_cons se_int (sa_cons se_int (sa_cons se_str sa_nil))))))))))) sa_nil)))))) (sss_cons (ss_set (i := 6) sc__law_bent.nd (sv_d (sd_se (se_sl (sl_lst (sa_cons (se_tup (sa_cons (se_pv 10) (sa_cons (se_pv 11) (sa_cons (se_pv 13) sa_nil)))) (sa_cons (se_tup (sa_cons (se_pv 10) (sa_cons (se_pv 11) (sa_cons (se_pv 13) sa_nil)))) (sa_cons (se_tup (sa_cons (se_pv 11) (sa_cons (se_pv 10) (sa_cons (se_pv 12) sa_nil)))) (sa_cons (se_tup (sa_cons (se_pv 10) (sa_cons (se_pv 13) (sa_cons (se_pv 12) sa_nil)))) (sa_cons (se_tup (sa_cons (se_pv 10) (sa_cons (se_pv 11) sa_nil))) (sa_cons se_non sa_nil))))))))))) (sss_cons (ss_set (i := 14) sc__law_bent.nd (sv_d (sd_se (se_bin (opAdd rfl) vAdd (se_bin (opAdd rfl) vAdd (se_slice rfl (se_pv 4) so_none (so_some (se_pv 9))) (se_tup (sa_cons (se_call (K := K) (ps := ["pot", "some"]) (m := m__law_pick) rfl c__law_pick hr hgd (sa_cons (se_pv 0) (sa_cons (se_pv 6) sa_nil))) sa_nil))) (se_slice rfl (se_pv 4) (so_some (se_bin (opAdd rfl) vAdd (se_pv 9) se_int)) so_none))))) (sss_cons (ss_set (i := 15) sc__law_bent.nd (sv_d (sd_se (se_call (K := K) (ps := ["pot", "some"]) (m := m__law_pick) rfl c__law_pick hr hgd (sa_cons (se_pv 0) (sa_cons (se_sl (sl_lst (sa_cons (se_bin (opAdd rfl) vAdd (se_slice rfl (se_pv 4) so_none (so_some (se_pv 9))) (se_slice rfl (se_pv 4) (so_some (se_bin (opAdd rfl) vAdd (se_pv 9) se_int)) so_none)) (sa_cons (se_bin (opAdd rfl) vAdd (se_pv 4) (se_slice rfl (se_pv 4) so_none (so_some se_int))) (sa_cons (se_rev rfl (se_pv 4)) (sa_cons (se_tup sa_nil) sa_nil)))))) sa_nil)))))) (sss_one (ss_ret (sv_d (sd_se (se_tup (sa_cons (se_pv 2) (sa_cons (se_pv 3) (sa_cons (se_call (K := K) (ps := ["pot", "some"]) (m := m__law_pick) rfl c__law_pick hr hgd (sa_cons (se_pv 0) (sa_cons (se_sl (sl_lst (sa_cons (se_pv 14) (sa_cons (se_pv 14) (sa_cons (se_pv 15) sa_nil))))) sa_nil))) sa_nil))))))))))))))))⟩
theorem g__law_is_whole {k : Nat} {f : Addr} {fd : FuncData} (F : Fun K "_law_is_whole" "_law_is_whole" s__law_is_whole f fd) (M : Md K mg) : FnG P w K mg base (k + 1) f fd ["value", "most"] m__law_is_whole :=
  fnG_of F sc__law_is_whole rfl fun cdv A outer s H hr hgd => ⟨_, (sss_one (ss_ret (sv_d (sd_se (se_and (se_isi (T := .int) rfl nofun M.z_isinstance M.z_int bt_int (se_pv 0)) (se_and (se_not (se_isi (T := .bool) rfl nofun M.z_isinstance M.z_bool bt_bool (se_pv 0))) (se_one (se_chain op_le vLe op_lt vLt se_int (se_pv 0) (se_pv 1)))))))))⟩
theorem g__law_is_spread {k : Nat} {f : Addr} {fd : FuncData} (F : Fun K "_law_is_spread" "_law_is_spread" s__law_is_spread f fd) (M : Md K mg) {f__law_is_whole : Addr} {fd__law_is_whole : FuncData} (c__law_is_whole : DL.Cal P w K mg base k "_law_is_whole" ["value", "most"] m__law_is_whole f__law_is_whole fd__law_is_whole) : FnG P w K mg base (k + 1) f fd ["draft", "shafts", "treadles", "value"] m__law_is_spread :=
  fnG_of F sc__law_is_spread rfl fun cdv A outer s H hr hgd => ⟨_, (sss_cons (ss_if (st_sw (sw_or (st_not (st_val (se_isi (T := .tuple) rfl nofun M.z_isinstance M.z_tuple bt_tuple (se_pv 3)))) (sw_or (st_cmp (opNe rfl hr) vNe (se_cb (crLen rfl) vLen M.z_len bt_len (sa_cons (se_pv 3) sa_nil)) se_int) (sw_or1 (st_cmp (opNotIn rfl hr) vNotIn (se_cb (crRepr rfl hgd hr) vRepr M.z_repr bt_repr (sa_cons (se_ix (opIx rfl) vIx (se_pv 3) se_int) sa_nil)) (se_tup (sa_cons se_str (sa_cons se_str sa_nil)))))))) (sss_one (ss_ret (sv_d (sd_se se_bl)))) sss_nil) (sss_cons (ss_asg (sd_se (se_tup (sa_cons (se_sl (sl_ct (crList rfl) vListL M.z_list bt_list (sa_cons (se_ix (opIx rfl) vIx (se_pv 0) se_int) sa_nil))) (sa_cons (se_pv 2) sa_nil)))) (sg_tup rfl rfl (sgs_cons (sg_name (i := 4) sc__law_is_spread.nd) (sgs_cons (sg_name (i := 5) sc__law_is_spread.nd) sgs_nil)))) (sss_cons (ss_if (st_cmp (opEq rfl hr) vEq (se_ix (opIx rfl) vIx (se_pv 3) se_int) se_str) (sss_one (ss_asg (sd_se (se_tup (sa_cons (se_sl (sl_lc [("at", 12)] [12] rfl sc__law_is_spread.nd (si_rng1 M.z_range (sa_cons (se_cb (crLen rfl) vLen M.z_len bt_len (sa_cons (se_ix (opIx rfl) vIx (se_ix (opIx rfl) vIx (se_pv 0) se_int) se_int) sa_nil)) sa_nil)) (by kernel_rfl) (fun _ _ _ _ _ => (sg_name (i := 12) sc__law_is_spread.nd)) (fun _ _ _ _ _ => sts_nil) (fun _ _ _ _ _ => (sd_se (se_ct (crTuple rfl) vTuple M.z_tuple bt_tuple (sa_cons (se_sl (sl_lc [("row", 14)] [14] rfl sc__law_is_spread.nd (si_seq rfl (sd_se (se_ix (opIx rfl) vIx (se_pv 0) se_int))) (by kernel_rfl) (fun _ _ _ _ _ => (sg_name (i := 14) sc__law_is_spread.nd)) (fun _ _ _ _ _ => sts_nil) (fun _ _ _ _ _ => (sd_se (se_ix (opIx rfl) vIx (se_pv 14) (se_pv 12)))))) sa_nil)))))) (sa_cons (se_pv 1) sa_nil)))) (sg_tup rfl rfl (sgs_cons (sg_name (i := 4) sc__law_is_spread.nd) (sgs_cons (sg_name (i := 5) sc__law_is_spread.nd) sgs_nil))))) sss_nil) (sss_cons (ss_par (i := 6) (j := 7) rfl sc__law_is_spread.nd (by decide) (sv_d (sd_se (se_ix (opIx rfl) vIx (se_pv 3) se_int))) (sv_d (sd_se (se_ix (opIx rfl) vIx (se_pv 3) se_int)))) (sss_cons (ss_if (st_sw (sw_or (st_not (st_val (se_isi (T := .tuple) rfl nofun M.z_isinstance M.z_tuple bt_tuple (se_pv 6)))) (sw_or (st_not (st_val (se_isi (T := .tuple) rfl nofun M.z_isinstance M.z_tuple bt_tuple (se_pv 7)))) (sw_or1 (st_cmp op_le vLe (se_cb (crLen rfl) vLen M.z_len bt_len (sa_cons (se_pv 6) sa_nil)) (se_pv 5)))))) (sss_one (ss_ret (sv_d (sd_se se_bl)))) sss_nil) (sss_cons (ss_if (st_sw (sw_or (st_not (st_val (se_cb (crAll rfl rfl) vAll M.z_all bt_all (sa_cons (se_sl (sl_lc [("one", 9)] [9] rfl sc__law_is_spread.nd (si_seq rfl (sd_se (se_pv 6))) (by kernel_rfl) (fun _ _ _ _ _ => (sg_name (i := 9) sc__law_is_spread.nd)) (fun _ _ _ _ _ => sts_nil) (fun _ _ _ _ _ => (sd_se (se_call (K := K) (ps := ["value", "most"]) (m := m__law_is_whole) rfl c__law_is_whole hr hgd (sa_cons (se_pv 9) (sa_cons (se_cb (crLen rfl) vLen M.z_len bt_len (sa_cons (se_pv 4) sa_nil)) sa_nil))))))) sa_nil)))) (sw_or1 (st_cmp (opNe rfl hr) vNe (se_sl (sl_ct (crList rfl) vListL M.z_list bt_list (sa_cons (se_pv 6) sa_nil))) (se_sl (sl_sortSet rfl rfl M.z_sorted M.z_set bt_sorted bt_set (sa_cons (se_pv 6) sa_nil))))))) (sss_one (ss_ret (sv_d (sd_se se_bl)))) sss_nil) (sss_cons (ss_set (i := 8) sc__law_is_spread.nd (sv_l (sl_lst sa_nil))) (sss_cons (ss_for PassesOwn.never rfl (si_seq rfl (sd_se (se_pv 6))) (sg_name (i := 9) sc__law_is_spread.nd) (sss_one (ss_expr (se_extend rfl (se_pv 8) (sa_cons (se_sl (sl_lc [("other", 13)] [13] rfl sc__law_is_spread.nd (si_seq rfl (sd_se (se_pv 6))) (by kernel_rfl) (fun _ _ _ _ _ => (sg_name (i := 13) sc__law_is_spread.nd)) (fun _ _ _ _ _ => (sts_one (st_cmp op_gt vGt (se_pv 13) (se_pv 9)))) (fun _ _ _ _ _ => (sd_se (se_tup (sa_cons (se_pv 9) (sa_cons (se_pv 13) sa_nil))))))) sa_nil))))) (sss_cons (ss_if (st_sw (sw_or (st_cmp (opNe rfl hr) vNe (se_cb (crLen rfl) vLen M.z_len bt_len (sa_cons (se_pv 7) sa_nil)) (se_cb (crLen rfl) vLen M.z_len bt_len (sa_cons (se_pv 8) sa_nil))) (sw_or1 (st_not (st_val (se_cb (crAll rfl rfl) vAll M.z_all bt_all (sa_cons (se_sl (sl_lc [("one", 9)] [9] rfl sc__law_is_spread.nd (si_seq rfl (sd_se (se_pv 7))) (by kernel_rfl) (fun _ _ _ _ _ => (sg_name (i := 9) sc__law_is_spread.nd)) (fun _ _ _ _ _ => sts_nil) (fun _ _ _ _ _ => (sd_se (se_and (se_isi (T := .tuple) rfl nofun M.z_isinstance M.z_tuple bt_tuple (se_pv 9)) (se_one (se_cmp (opEq rfl hr) vEq (se_cb (crLen rfl) vLen M.z_len bt_len (sa_cons (se_pv 9) sa_nil)) se_int))))))) sa_nil))))))) (sss_one (ss_ret (sv_d (sd_se se_bl)))) sss_nil) (sss_cons (ss_for PassesOwn.never rfl (si_zip rfl M.z_zip (sa_cons (se_pv 8) (sa_cons (se_pv 7) sa_nil))) (sg_tup rfl rfl (sgs_cons (sg_name (i := 10) sc__law_is_spread.nd) (sgs_cons (sg_name (i := 11) sc__law_is_spread.nd) sgs_nil))) (sss_cons (ss_if (st_sw (sw_or (st_cmp (opNe rfl hr) vNe (se_cb (crRepr rfl hgd hr) vRepr M.z_repr bt_repr (sa_cons (se_slice rfl (se_pv 11) so_none (so_some se_int)) sa_nil)) (se_cb (crRepr rfl hgd hr) vRepr M.z_repr bt_repr (sa_cons (se_pv 10) sa_nil))) (sw_or1 (st_not (st_val (se_call (K := K) (ps := ["value", "most"]) (m := m__law_is_whole) rfl c__law_is_whole hr hgd (sa_cons (se_ix (opIx rfl) vIx (se_pv 11) se_int) (sa_cons (se_cb (crLen rfl) vLen M.z_len bt_len (sa_cons (se_ix (opIx rfl) vIx (se_pv 4) se_int) sa_nil)) sa_nil)))))))) (sss_one (ss_ret (sv_d (sd_se se_bl)))) sss_nil) (sss_one (ss_if (st_cmp (opEq rfl hr) vEq (se_ix (opIx rfl) vIx (se_ix (opIx rfl) vIx (se_pv 4) (se_ix (opIx rfl) vIx (se_pv 10) se_int)) (se_ix (opIx rfl) vIx (se_pv 11) se_int)) (se_ix (opIx rfl) vIx (se_ix (opIx rfl) vIx (se_pv 4) (se_ix (opIx rfl) vIx (se_pv 10) se_int)) (se_ix (opIx rfl) vIx (se_pv 11) se_int))) (sss_one (ss_ret (sv_d (sd_se se_bl)))) sss_nil)))) (sss_one (ss_ret (sv_d (sd_se se_bl))))))))))))))⟩
theorem g_is_loom {k : Nat} {f : Addr} {fd : FuncData} (F : Fun K "is_loom" "is_loom" s_is_loom f fd) (M : Md K mg) {f_is_loom_value : Addr} {fd_is_loom_value : FuncData} (c_is_loom_value : DL.Cal P w K mg base k "is_loom_value" ["value"] m_is_loom_value f_is_loom_value fd_is_loom_value) : FnG P w K mg base (k + 1) f fd ["value"] m_is_loom :=
  fnG_of F sc_is_loom rfl fun cdv A outer s H hr hgd => ⟨_, (sss_one (ss_ret (sv_d (sd_se (se_call (K := K) (ps := ["value"]) (m := m_is_loom_value) rfl c_is_loom_value hr hgd (sa_cons (se_pv 0) sa_nil))))))⟩
theorem g__law_right {k : Nat} {f : Addr} {fd : FuncData} (F : Fun K "_law_right" "_law_right" s__law_right f fd) (M : Md K mg) {f__law_looms : Addr} {fd__law_looms : FuncData} (c__law_looms : DL.Cal P w K mg base k "_law_looms" ["pot", "loom", "draft"] m__law_looms f__law_looms fd__law_looms) {f_is_loom_within : Addr} {fd_is_loom_within : FuncData} (c_is_loom_within : DL.Cal P w K mg base k "is_loom_within" ["draft", "shafts", "treadles", "value"] m_is_loom_within f_is_loom_within fd_is_loom_within) {f__law_woven : Addr} {fd__law_woven : FuncData} (c__law_woven : DL.Cal P w K mg base k "_law_woven" ["loom"] m__law_woven f__law_woven fd__law_woven) {f_is_loom : Addr} {fd_is_loom : FuncData} (c_is_loom : DL.Cal P w K mg base k "is_loom" ["value"] m_is_loom f_is_loom fd_is_loom) {f_is_spread : Addr} {fd_is_spread : FuncData} (c_is_spread : DL.Cal P w K mg base k "is_spread" ["draft", "shafts", "treadles", "value"] m_is_spread f_is_spread fd_is_spread) {f__law_is_spread : Addr} {fd__law_is_spread : FuncData} (c__law_is_spread : DL.Cal P w K mg base k "_law_is_spread" ["draft", "shafts", "treadles", "value"] m__law_is_spread f__law_is_spread fd__law_is_spread) {f__law_bent : Addr} {fd__law_bent : FuncData} (c__law_bent : DL.Cal P w K mg base k "_law_bent" ["pot", "value"] m__law_bent f__law_bent fd__law_bent) {f__law_drawn : Addr} {fd__law_drawn : FuncData} (c__law_drawn : DL.Cal P w K mg base k "_law_drawn" ["pot", "draft", "number"] m__law_drawn f__law_drawn fd__law_drawn) {f_spread : Addr} {fd_spread : FuncData} (c_spread : DL.Cal P w K mg base k "spread" ["draft", "shafts", "treadles"] m_spread f_spread fd_spread) {f__law_draw : Addr} {fd__law_draw : FuncData} (c__law_draw : DL.Cal P w K mg base k "_law_draw" ["pot", "many"] m__law_draw f__law_draw fd__law_draw) {f_fewest_shafts : Addr} {fd_fewest_shafts : FuncData} (c_fewest_shafts : DL.Cal P w K mg base k "fewest_shafts" ["draft"] m_fewest_shafts f_fewest_shafts fd_fewest_shafts) {f_fewest_treadles : Addr} {fd_fewest_treadles : FuncData} (c_fewest_treadles : DL.Cal P w K mg base k "fewest_treadles" ["draft"] m_fewest_treadles f_fewest_treadles fd_fewest_treadles) {f__law_loom : Addr} {fd__law_loom : FuncData} (c__law_loom : DL.Cal P w K mg base k "_law_loom" ["pot", "most"] m__law_loom f__law_loom fd__law_loom) (kb_is_loom_within_0_value_treadles_shafts_draft : KwB K fd_is_loom_within ["draft", "shafts", "treadles", "value"] ["value", "treadles", "shafts", "draft"] [3, 2, 1, 0]) (kb_is_spread_0_value_treadles_shafts_draft : KwB K fd_is_spread ["draft", "shafts", "treadles", "value"] ["value", "treadles", "shafts", "draft"] [3, 2, 1, 0]) : FnG P w K mg base (k + 1) f fd ["pot"] m__law_right :=
  fnG_of F sc__law_right rfl fun cdv A outer s H hr hgd => ⟨_, (sss_cons (ss_set (i := 1) sc__law_right.nd (sv_d (sd_se (se_call (K := K) (ps := ["pot", "most"]) (m := m__law_loom) rfl c__law_loom hr hgd (sa_cons (se_pv 0) (sa_cons se_int sa_nil)))))) (sss_cons (ss_set (i := 2) sc__law_right.nd (sv_d (sd_se (se_call (K := K) (ps := ["loom"]) (m := m__law_woven) rfl c__law_woven hr hgd (sa_cons (se_pv 1) sa_nil))))) (sss_cons (ss_par (i := 3) (j := 4) rfl sc__law_right.nd (by decide) (sv_d (sd_se (se_call (K := K) (ps := ["draft"]) (m := m_fewest_shafts) rfl c_fewest_shafts hr hgd (sa_cons (se_pv 2) sa_nil)))) (sv_d (sd_se (se_call (K := K) (ps := ["draft"]) (m := m_fewest_treadles) rfl c_fewest_treadles hr hgd (sa_cons (se_pv 2) sa_nil))))) (sss_cons (ss_for PassesOwn.never rfl (si_rng1 M.z_range (sa_cons se_int sa_nil)) (sg_name (i := 5) sc__law_right.nd) (sss_cons (ss_par (i := 6) (j := 7) rfl sc__law_right.nd (by decide) (sv_d (sd_se (se_cb (crMax rfl rfl) vMax M.z_max bt_max (sa_cons se_int (sa_cons (se_bin op_sub vSub (se_bin (opAdd rfl) vAdd (se_pv 3) (se_call (K := K) (ps := ["pot", "many"]) (m := m__law_draw) rfl c__law_draw hr hgd (sa_cons (se_pv 0) (sa_cons se_int sa_nil)))) se_int) sa_nil))))) (sv_d (sd_se (se_cb (crMax rfl rfl) vMax M.z_max bt_max (sa_cons se_int (sa_cons (se_bin op_sub vSub (se_bin (opAdd rfl) vAdd (se_pv 4) (se_call (K := K) (ps := ["pot", "many"]) (m := m__law_draw) rfl c__law_draw hr hgd (sa_cons (se_pv 0) (sa_cons se_int sa_nil)))) se_int) sa_nil)))))) (sss_cons (ss_set (i := 8) sc__law_right.nd (sv_d (sd_se (se_call (K := K) (ps := ["draft", "shafts", "treadles"]) (m := m_spread) rfl c_spread hr hgd (sa_cons (se_pv 2) (sa_cons (se_pv 6) (sa_cons (se_pv 7) sa_nil))))))) (sss_cons (ss_set (i := 9) sc__law_right.nd (sv_d (sd_se (se_if (st_cmp opIsNot vIsNot (se_pv 8) se_non) (se_pv 8) (se_call (K := K) (ps := ["pot", "draft", "number"]) (m := m__law_drawn) rfl c__law_drawn hr hgd (sa_cons (se_pv 0) (sa_cons (se_pv 2) (sa_cons (se_pv 6) sa_nil)))))))) (sss_cons (ss_set (i := 10) sc__law_right.nd (sv_d (sd_se (se_call (K := K) (ps := ["pot", "draft", "number"]) (m := m__law_drawn) rfl c__law_drawn hr hgd (sa_cons (se_pv 0) (sa_cons (se_pv 2) (sa_cons (se_pv 7) sa_nil))))))) (sss_cons (ss_set (i := 11) sc__law_right.nd (sv_d (sd_se (se_sl (sl_lst (sa_cons (se_pv 9) (sa_cons (se_pv 8) (sa_cons se_non (sa_cons (se_tup sa_nil) (sa_cons se_int (sa_cons se_dict0 (sa_cons se_str (sa_cons (se_call (K := K) (ps := ["pot", "draft", "number"]) (m := m__law_drawn) rfl c__law_drawn hr hgd (sa_cons (se_pv 0) (sa_cons (se_pv 2) (sa_cons (se_pv 6) sa_nil)))) (sa_cons (se_pv 10) sa_nil)))))))))))))) (sss_cons (ss_set (i := 11) sc__law_right.nd (sv_d (sd_se (se_bin (opAdd rfl) vAdd (se_bin (opAdd rfl) vAdd (se_pv 11) (se_sl (sl_lc [("again", 16)] [16] rfl sc__law_right.nd (si_rng1 M.z_range (sa_cons se_int sa_nil)) (by kernel_rfl) (fun _ _ _ _ _ => (sg_name (i := 16) sc__law_right.nd)) (fun _ _ _ _ _ => sts_nil) (fun _ _ _ _ _ => (sd_se (se_call (K := K) (ps := ["pot", "value"]) (m := m__law_bent) rfl c__law_bent hr hgd (sa_cons (se_pv 0) (sa_cons (se_pv 9) sa_nil)))))))) (se_sl (sl_lc [("again", 16)] [16] rfl sc__law_right.nd (si_rng1 M.z_range (sa_cons se_int sa_nil)) (by kernel_rfl) (fun _ _ _ _ _ => (sg_name (i := 16) sc__law_right.nd)) (fun _ _ _ _ _ => sts_nil) (fun _ _ _ _ _ => (sd_se (se_call (K := K) (ps := ["pot", "value"]) (m := m__law_bent) rfl c__law_bent hr hgd (sa_cons (se_pv 0) (sa_cons (se_pv 10) sa_nil))))))))))) (sss_cons (ss_for PassesOwn.never rfl (si_seq rfl (sd_se (se_pv 11))) (sg_name (i := 12) sc__law_right.nd) (sss_cons (ss_par (i := 13) (j := 14) rfl sc__law_right.nd (by decide) (sv_d (sd_se (se_call (K := K) (ps := ["draft", "shafts", "treadles", "value"]) (m := m__law_is_spread) rfl c__law_is_spread hr hgd (sa_cons (se_pv 2) (sa_cons (se_pv 6) (sa_cons (se_pv 7) (sa_cons (se_pv 12) sa_nil))))))) (sv_d (sd_se (se_cb (crRepr rfl hgd hr) vRepr M.z_repr bt_repr (sa_cons (se_pv 12) sa_nil))))) (sss_cons (ss_set (i := 15) sc__law_right.nd (sv_d (sd_se (se_callK0 (K := K) (ps := ["draft", "shafts", "treadles", "value"]) (m := m_is_spread) (ks := ["value", "treadles", "shafts", "draft"]) (pm := [3, 2, 1, 0]) rfl c_is_spread kb_is_spread_0_value_treadles_shafts_draft hr hgd (sk_cons (se_pv 12) (sk_cons (se_pv 7) (sk_cons (se_pv 6) (sk_cons (se_pv 2) sk_nil)))))))) (sss_one (ss_if (st_sw (sw_or (st_cmp (opNe rfl hr) vNe (se_cb (crRepr rfl hgd hr) vRepr M.z_repr bt_repr (sa_cons (se_sl (sl_lst (sa_cons (se_call (K := K) (ps := ["draft", "shafts", "treadles", "value"]) (m := m_is_spread) rfl c_is_spread hr hgd (sa_cons (se_pv 2) (sa_cons (se_pv 6) (sa_cons (se_pv 7) (sa_cons (se_pv 12) sa_nil))))) (sa_cons (se_pv 15) sa_nil)))) sa_nil)) (se_cb (crRepr rfl hgd hr) vRepr M.z_repr bt_repr (sa_cons (se_sl (sl_lst (sa_cons (se_pv 13) (sa_cons (se_pv 13) sa_nil)))) sa_nil))) (sw_or1 (st_cmp (opNe rfl hr) vNe (se_cb (crRepr rfl hgd hr) vRepr M.z_repr bt_repr (sa_cons (se_pv 12) sa_nil)) (se_pv 14))))) (sss_one (ss_ret (sv_d (sd_se se_bl)))) sss_nil))))) (sss_one (ss_for PassesOwn.never rfl (si_seq rfl (sd_se (se_call (K := K) (ps := ["pot", "loom", "draft"]) (m := m__law_looms) rfl c__law_looms hr hgd (sa_cons (se_pv 0) (sa_cons (se_pv 1) (sa_cons (se_pv 2) sa_nil)))))) (sg_name (i := 12) sc__law_right.nd) (sss_cons (ss_set (i := 13) sc__law_right.nd (sv_d (sd_se (se_and (se_call (K := K) (ps := ["value"]) (m := m_is_loom) rfl c_is_loom hr hgd (sa_cons (se_pv 12) sa_nil)) (se_and (se_cmp op_le vLe (se_ix (opIx rfl) vIx (se_pv 12) se_int) (se_pv 6)) (se_and (se_cmp op_le vLe (se_cb (crLen rfl) vLen M.z_len bt_len (sa_cons (se_ix (opIx rfl) vIx (se_pv 12) se_int) sa_nil)) (se_pv 7)) (se_one (se_cmp (opEq rfl hr) vEq (se_call (K := K) (ps := ["loom"]) (m := m__law_woven) rfl c__law_woven hr hgd (sa_cons (se_pv 12) sa_nil)) (se_pv 2))))))))) (sss_cons (ss_set (i := 15) sc__law_right.nd (sv_d (sd_se (se_callK0 (K := K) (ps := ["draft", "shafts", "treadles", "value"]) (m := m_is_loom_within) (ks := ["value", "treadles", "shafts", "draft"]) (pm := [3, 2, 1, 0]) rfl c_is_loom_within kb_is_loom_within_0_value_treadles_shafts_draft hr hgd (sk_cons (se_pv 12) (sk_cons (se_pv 7) (sk_cons (se_pv 6) (sk_cons (se_pv 2) sk_nil)))))))) (sss_one (ss_if (st_cmp (opNe rfl hr) vNe (se_cb (crRepr rfl hgd hr) vRepr M.z_repr bt_repr (sa_cons (se_sl (sl_lst (sa_cons (se_call (K := K) (ps := ["draft", "shafts", "treadles", "value"]) (m := m_is_loom_within) rfl c_is_loom_within hr hgd (sa_cons (se_pv 2) (sa_cons (se_pv 6) (sa_cons (se_pv 7) (sa_cons (se_pv 12) sa_nil))))) (sa_cons (se_pv 15) sa_nil)))) sa_nil)) (se_cb (crRepr rfl hgd hr) vRepr M.z_repr bt_repr (sa_cons (se_sl (sl_lst (sa_cons (se_pv 13) (sa_cons (se_pv 13) sa_nil)))) sa_nil))) (sss_one (ss_ret (sv_d (sd_se se_bl)))) sss_nil)))))))))))))) (sss_one (ss_ret (sv_d (sd_se se_bl))))))))⟩
theorem g__law_pot {k : Nat} {f : Addr} {fd : FuncData} (F : Fun K "_law_pot" "_law_pot" s__law_pot f fd) (M : Md K mg) : FnG P w K mg base (k + 1) f fd ["script", "k"] m__law_pot :=
  fnG_of F sc__law_pot rfl fun cdv A outer s H hr hgd => ⟨_, (sss_cons (ss_set (i := 2) sc__law_pot.nd (sv_d (sd_se (se_bin (opAdd rfl) vAdd (se_bin (opMulX rfl) vMulX se_int (se_pv 1)) se_int)))) (sss_cons (ss_if (st_cmp op_lt vLt (se_pv 1) (se_cb (crLen rfl) vLen M.z_len bt_len (sa_cons (se_pv 0) sa_nil))) (sss_one (ss_set (i := 2) sc__law_pot.nd (sv_d (sd_se (se_cb crAbs vAbs M.z_abs bt_abs (sa_cons (se_ix (opIx rfl) vIx (se_pv 0) (se_pv 1)) sa_nil)))))) sss_nil) (sss_one (ss_ret (sv_l (sl_lst (sa_cons (se_cb (crMax rfl rfl) vMax M.z_max bt_max (sa_cons se_int (sa_cons (se_bin op_sub vSub (se_pv 2) (se_bin op_pow vPow se_int se_int)) sa_nil))) (sa_cons (se_bin (opAdd rfl) vAdd (se_bin op_mod vMod (se_ct crInt vInt M.z_int bt_int (sa_cons (se_bin (opAdd rfl) vAdd (se_bin (opAdd rfl) vAdd (se_bin (opMulX rfl) vMulX (se_bin op_mod vMod (se_ct crInt vInt M.z_int bt_int (sa_cons (se_pv 2) sa_nil)) se_int) se_int) (se_bin (opMulX rfl) vMulX se_int (se_pv 1))) se_int) sa_nil)) se_int) se_int) sa_nil))))))))⟩
theorem g_law {k : Nat} {f : Addr} {fd : FuncData} (F : Fun K "law" "law" s_law f fd) (M : Md K mg) {f__law_right : Addr} {fd__law_right : FuncData} (c__law_right : DL.Cal P w K mg base k "_law_right" ["pot"] m__law_right f__law_right fd__law_right) {f__law_pot : Addr} {fd__law_pot : FuncData} (c__law_pot : DL.Cal P w K mg base k "_law_pot" ["script", "k"] m__law_pot f__law_pot fd__law_pot) : FnG P w K mg base (k + 1) f fd ["script"] m_law :=
  fnG_of F sc_law rfl fun cdv A outer s H hr hgd => ⟨_, (sss_one (ss_ret (sv_d (sd_se (se_cb (crAll rfl rfl) vAll M.z_all bt_all (sa_cons (se_sl (sl_lc [("k", 1)] [1] rfl sc_law.nd (si_rng1 M.z_range (sa_cons (se_cb (crMax rfl rfl) vMax M.z_max bt_max (sa_cons se_int (sa_cons (se_cb (crMin rfl rfl) vMin M.z_min bt_min (sa_cons se_int (sa_cons (se_cb (crLen rfl) vLen M.z_len bt_len (sa_cons (se_pv 0) sa_nil)) sa_nil))) sa_nil))) sa_nil)) (by kernel_rfl) (fun _ _ _ _ _ => (sg_name (i := 1) sc_law.nd)) (fun _ _ _ _ _ => sts_nil) (fun _ _ _ _ _ => (sd_se (se_callF (K := K) (ps := ["pot"]) (m := m__law_right) rfl c__law_right hr hgd (sl_call (K := K) (ps := ["script", "k"]) (m := m__law_pot) rfl c__law_pot hr hgd (sa_cons (se_pv 0) (sa_cons (se_pv 1) sa_nil)))))))) sa_nil))))))⟩
end
/-! ### the end -/
theorem all_mk {l : PySem.W.OpenLaw} {w : World} {K : PySem.W.Frag} {h : Heap} {mg : Str → Option Value} {fa f__law_draw f__law_loom f__law_woven f_is_tuple f_is_headed f_is_integer f_is_within f_are_rows_of f_is_draft_value f_want_draft f_by_first f_many_warps f_columns_of f_lines_of f_many_unlike f_fewest_shafts f_fewest_treadles f_want_most f_want_numbers f_first_unlike f_pairs_of f_like_lists f_spread_of f_spread f__law_pick f__law_mixed f__law_drawn f_numbered f_told_loom f_loom_of f__law_looms f_are_rising f_is_lot_of f_is_place_of f_is_spread f_plan_of f_woven_by f_are_numbers f_are_lifts f_is_loom_value f_is_loom_within f__law_bent f__law_is_whole f__law_is_spread f_is_loom f__law_right f__law_pot f_law : Addr} (X : K.In h) (G : h.Ns mainGlobals mg) (hfa : mg "law" = some (.ref fa))
    {od__law_draw an__law_draw od__law_loom an__law_loom od__law_woven an__law_woven od_is_tuple an_is_tuple od_is_headed an_is_headed od_is_integer an_is_integer od_is_within an_is_within od_are_rows_of an_are_rows_of od_is_draft_value an_is_draft_value od_want_draft an_want_draft od_by_first an_by_first od_many_warps an_many_warps od_columns_of an_columns_of od_lines_of an_lines_of od_many_unlike an_many_unlike od_fewest_shafts an_fewest_shafts od_fewest_treadles an_fewest_treadles od_want_most an_want_most od_want_numbers an_want_numbers od_first_unlike an_first_unlike od_pairs_of an_pairs_of od_like_lists an_like_lists od_spread_of an_spread_of od_spread an_spread od__law_pick an__law_pick od__law_mixed an__law_mixed od__law_drawn an__law_drawn od_numbered an_numbered od_told_loom an_told_loom od_loom_of an_loom_of od__law_looms an__law_looms od_are_rising an_are_rising od_is_lot_of an_is_lot_of od_is_place_of an_is_place_of od_is_spread an_is_spread od_plan_of an_plan_of od_woven_by an_woven_by od_are_numbers an_are_numbers od_are_lifts an_are_lifts od_is_loom_value an_is_loom_value od_is_loom_within an_is_loom_within od__law_bent an__law_bent od__law_is_whole an__law_is_whole od__law_is_spread an__law_is_spread od_is_loom an_is_loom od__law_right an__law_right od__law_pot an__law_pot od_law an_law : Option Addr} {sl__law_draw sl__law_loom sl__law_woven sl_is_tuple sl_is_headed sl_is_integer sl_is_within sl_are_rows_of sl_is_draft_value sl_want_draft sl_by_first sl_many_warps sl_columns_of sl_lines_of sl_many_unlike sl_fewest_shafts sl_fewest_treadles sl_want_most sl_want_numbers sl_first_unlike sl_pairs_of sl_like_lists sl_spread_of sl_spread sl__law_pick sl__law_mixed sl__law_drawn sl_numbered sl_told_loom sl_loom_of sl__law_looms sl_are_rising sl_is_lot_of sl_is_place_of sl_is_spread sl_plan_of sl_woven_by sl_are_numbers sl_are_lifts sl_is_loom_value sl_is_loom_within sl__law_bent sl__law_is_whole sl__law_is_spread sl_is_loom sl__law_right sl__law_pot sl_law : Array (Option Value)} {oc__law_draw kV__law_draw dc__law_draw pm__law_draw cd__law_draw ct__law_draw oc__law_loom kV__law_loom dc__law_loom pm__law_loom cd__law_loom ct__law_loom oc__law_woven kV__law_woven dc__law_woven pm__law_woven cd__law_woven ct__law_woven oc_is_tuple kV_is_tuple dc_is_tuple pm_is_tuple cd_is_tuple ct_is_tuple oc_is_headed kV_is_headed dc_is_headed pm_is_headed cd_is_headed ct_is_headed oc_is_integer kV_is_integer dc_is_integer pm_is_integer cd_is_integer ct_is_integer oc_is_within kV_is_within dc_is_within pm_is_within cd_is_within ct_is_within oc_are_rows_of kV_are_rows_of dc_are_rows_of pm_are_rows_of cd_are_rows_of ct_are_rows_of oc_is_draft_value kV_is_draft_value dc_is_draft_value pm_is_draft_value cd_is_draft_value ct_is_draft_value oc_want_draft kV_want_draft dc_want_draft pm_want_draft cd_want_draft ct_want_draft oc_by_first kV_by_first dc_by_first pm_by_first cd_by_first ct_by_first oc_many_warps kV_many_warps dc_many_warps pm_many_warps cd_many_warps ct_many_warps oc_columns_of kV_columns_of dc_columns_of pm_columns_of cd_columns_of ct_columns_of oc_lines_of kV_lines_of dc_lines_of pm_lines_of cd_lines_of ct_lines_of oc_many_unlike kV_many_unlike dc_many_unlike pm_many_unlike cd_many_unlike ct_many_unlike oc_fewest_shafts kV_fewest_shafts dc_fewest_shafts pm_fewest_shafts cd_fewest_shafts ct_fewest_shafts oc_fewest_treadles kV_fewest_treadles dc_fewest_treadles pm_fewest_treadles cd_fewest_treadles ct_fewest_treadles oc_want_most kV_want_most dc_want_most pm_want_most cd_want_most ct_want_most oc_want_numbers kV_want_numbers dc_want_numbers pm_want_numbers cd_want_numbers ct_want_numbers oc_first_unlike kV_first_unlike dc_first_unlike pm_first_unlike cd_first_unlike ct_first_unlike oc_pairs_of kV_pairs_of dc_pairs_of pm_pairs_of cd_pairs_of ct_pairs_of oc_like_lists kV_like_lists dc_like_lists pm_like_lists cd_like_lists ct_like_lists oc_spread_of kV_spread_of dc_spread_of pm_spread_of cd_spread_of ct_spread_of oc_spread kV_spread dc_spread pm_spread cd_spread ct_spread oc__law_pick kV__law_pick dc__law_pick pm__law_pick cd__law_pick ct__law_pick oc__law_mixed kV__law_mixed dc__law_mixed pm__law_mixed cd__law_mixed ct__law_mixed oc__law_drawn kV__law_drawn dc__law_drawn pm__law_drawn cd__law_drawn ct__law_drawn oc_numbered kV_numbered dc_numbered pm_numbered cd_numbered ct_numbered oc_told_loom kV_told_loom dc_told_loom pm_told_loom cd_told_loom ct_told_loom oc_loom_of kV_loom_of dc_loom_of pm_loom_of cd_loom_of ct_loom_of oc__law_looms kV__law_looms dc__law_looms pm__law_looms cd__law_looms ct__law_looms oc_are_rising kV_are_rising dc_are_rising pm_are_rising cd_are_rising ct_are_rising oc_is_lot_of kV_is_lot_of dc_is_lot_of pm_is_lot_of cd_is_lot_of ct_is_lot_of oc_is_place_of kV_is_place_of dc_is_place_of pm_is_place_of cd_is_place_of ct_is_place_of oc_is_spread kV_is_spread dc_is_spread pm_is_spread cd_is_spread ct_is_spread oc_plan_of kV_plan_of dc_plan_of pm_plan_of cd_plan_of ct_plan_of oc_woven_by kV_woven_by dc_woven_by pm_woven_by cd_woven_by ct_woven_by oc_are_numbers kV_are_numbers dc_are_numbers pm_are_numbers cd_are_numbers ct_are_numbers oc_are_lifts kV_are_lifts dc_are_lifts pm_are_lifts cd_are_lifts ct_are_lifts oc_is_loom_value kV_is_loom_value dc_is_loom_value pm_is_loom_value cd_is_loom_value ct_is_loom_value oc_is_loom_within kV_is_loom_within dc_is_loom_within pm_is_loom_within cd_is_loom_within ct_is_loom_within oc__law_bent kV__law_bent dc__law_bent pm__law_bent cd__law_bent ct__law_bent oc__law_is_whole kV__law_is_whole dc__law_is_whole pm__law_is_whole cd__law_is_whole ct__law_is_whole oc__law_is_spread kV__law_is_spread dc__law_is_spread pm__law_is_spread cd__law_is_spread ct__law_is_spread oc_is_loom kV_is_loom dc_is_loom pm_is_loom cd_is_loom ct_is_loom oc__law_right kV__law_right dc__law_right pm__law_right cd__law_right ct__law_right oc__law_pot kV__law_pot dc__law_pot pm__law_pot cd__law_pot ct__law_pot oc_law kV_law dc_law pm_law cd_law ct_law : Value} {t_LOOM t_MOST t_WARP t_WEFT : Tok}
    (a__law_draw : PySem.W.nsIn K mainGlobals "_law_draw" = some (some (.ref f__law_draw))) (l__law_draw : K.lookup f__law_draw = some ⟨oc__law_draw, od__law_draw, .func (PySem.W.fnOf "_law_draw" "_law_draw" (defArgs s__law_draw) (defBody s__law_draw) (defScope s__law_draw) .none kV__law_draw dc__law_draw pm__law_draw an__law_draw cd__law_draw ct__law_draw), sl__law_draw⟩) (d__law_draw : PySem.W.codeIn K cd__law_draw "_law_draw" = true) (k__law_draw : PySem.W.keepIn K (.ref f__law_draw) = true)
    (a__law_loom : PySem.W.nsIn K mainGlobals "_law_loom" = some (some (.ref f__law_loom))) (l__law_loom : K.lookup f__law_loom = some ⟨oc__law_loom, od__law_loom, .func (PySem.W.fnOf "_law_loom" "_law_loom" (defArgs s__law_loom) (defBody s__law_loom) (defScope s__law_loom) .none kV__law_loom dc__law_loom pm__law_loom an__law_loom cd__law_loom ct__law_loom), sl__law_loom⟩) (d__law_loom : PySem.W.codeIn K cd__law_loom "_law_loom" = true) (k__law_loom : PySem.W.keepIn K (.ref f__law_loom) = true)
    (a__law_woven : PySem.W.nsIn K mainGlobals "_law_woven" = some (some (.ref f__law_woven))) (l__law_woven : K.lookup f__law_woven = some ⟨oc__law_woven, od__law_woven, .func (PySem.W.fnOf "_law_woven" "_law_woven" (defArgs s__law_woven) (defBody s__law_woven) (defScope s__law_woven) .none kV__law_woven dc__law_woven pm__law_woven an__law_woven cd__law_woven ct__law_woven), sl__law_woven⟩) (d__law_woven : PySem.W.codeIn K cd__law_woven "_law_woven" = true) (k__law_woven : PySem.W.keepIn K (.ref f__law_woven) = true)
    (a_is_tuple : PySem.W.nsIn K mainGlobals "is_tuple" = some (some (.ref f_is_tuple))) (l_is_tuple : K.lookup f_is_tuple = some ⟨oc_is_tuple, od_is_tuple, .func (PySem.W.fnOf "is_tuple" "is_tuple" (defArgs s_is_tuple) (defBody s_is_tuple) (defScope s_is_tuple) .none kV_is_tuple dc_is_tuple pm_is_tuple an_is_tuple cd_is_tuple ct_is_tuple), sl_is_tuple⟩) (d_is_tuple : PySem.W.codeIn K cd_is_tuple "is_tuple" = true) (k_is_tuple : PySem.W.keepIn K (.ref f_is_tuple) = true)
    (a_is_headed : PySem.W.nsIn K mainGlobals "is_headed" = some (some (.ref f_is_headed))) (l_is_headed : K.lookup f_is_headed = some ⟨oc_is_headed, od_is_headed, .func (PySem.W.fnOf "is_headed" "is_headed" (defArgs s_is_headed) (defBody s_is_headed) (defScope s_is_headed) .none kV_is_headed dc_is_headed pm_is_headed an_is_headed cd_is_headed ct_is_headed), sl_is_headed⟩) (d_is_headed : PySem.W.codeIn K cd_is_headed "is_headed" = true) (k_is_headed : PySem.W.keepIn K (.ref f_is_headed) = true)
    (a_is_integer : PySem.W.nsIn K mainGlobals "is_integer" = some (some (.ref f_is_integer))) (l_is_integer : K.lookup f_is_integer = some ⟨oc_is_integer, od_is_integer, .func (PySem.W.fnOf "is_integer" "is_integer" (defArgs s_is_integer) (defBody s_is_integer) (defScope s_is_integer) .none kV_is_integer dc_is_integer pm_is_integer an_is_integer cd_is_integer ct_is_integer), sl_is_integer⟩) (d_is_integer : PySem.W.codeIn K cd_is_integer "is_integer" = true) (k_is_integer : PySem.W.keepIn K (.ref f_is_integer) = true)
    (a_is_within : PySem.W.nsIn K mainGlobals "is_within" = some (some (.ref f_is_within))) (l_is_within : K.lookup f_is_within = some ⟨oc_is_within, od_is_within, .func (PySem.W.fnOf "is_within" "is_within" (defArgs s_is_within) (defBody s_is_within) (defScope s_is_within) .none kV_is_within dc_is_within pm_is_within an_is_within cd_is_within ct_is_within), sl_is_within⟩) (d_is_within : PySem.W.codeIn K cd_is_within "is_within" = true) (k_is_within : PySem.W.keepIn K (.ref f_is_within) = true)
    (a_are_rows_of : PySem.W.nsIn K mainGlobals "are_rows_of" = some (some (.ref f_are_rows_of))) (l_are_rows_of : K.lookup f_are_rows_of = some ⟨oc_are_rows_of, od_are_rows_of, .func (PySem.W.fnOf "are_rows_of" "are_rows_of" (defArgs s_are_rows_of) (defBody s_are_rows_of) (defScope s_are_rows_of) .none kV_are_rows_of dc_are_rows_of pm_are_rows_of an_are_rows_of cd_are_rows_of ct_are_rows_of), sl_are_rows_of⟩) (d_are_rows_of : PySem.W.codeIn K cd_are_rows_of "are_rows_of" = true) (k_are_rows_of : PySem.W.keepIn K (.ref f_are_rows_of) = true)
    (a_is_draft_value : PySem.W.nsIn K mainGlobals "is_draft_value" = some (some (.ref f_is_draft_value))) (l_is_draft_value : K.lookup f_is_draft_value = some ⟨oc_is_draft_value, od_is_draft_value, .func (PySem.W.fnOf "is_draft_value" "is_draft_value" (defArgs s_is_draft_value) (defBody s_is_draft_value) (defScope s_is_draft_value) .none kV_is_draft_value dc_is_draft_value pm_is_draft_value an_is_draft_value cd_is_draft_value ct_is_draft_value), sl_is_draft_value⟩) (d_is_draft_value : PySem.W.codeIn K cd_is_draft_value "is_draft_value" = true) (k_is_draft_value : PySem.W.keepIn K (.ref f_is_draft_value) = true)
    (a_want_draft : PySem.W.nsIn K mainGlobals "want_draft" = some (some (.ref f_want_draft))) (l_want_draft : K.lookup f_want_draft = some ⟨oc_want_draft, od_want_draft, .func (PySem.W.fnOf "want_draft" "want_draft" (defArgs s_want_draft) (defBody s_want_draft) (defScope s_want_draft) .none kV_want_draft dc_want_draft pm_want_draft an_want_draft cd_want_draft ct_want_draft), sl_want_draft⟩) (d_want_draft : PySem.W.codeIn K cd_want_draft "want_draft" = true) (k_want_draft : PySem.W.keepIn K (.ref f_want_draft) = true)
    (a_by_first : PySem.W.nsIn K mainGlobals "by_first" = some (some (.ref f_by_first))) (l_by_first : K.lookup f_by_first = some ⟨oc_by_first, od_by_first, .func (PySem.W.fnOf "by_first" "by_first" (defArgs s_by_first) (defBody s_by_first) (defScope s_by_first) .none kV_by_first dc_by_first pm_by_first an_by_first cd_by_first ct_by_first), sl_by_first⟩) (d_by_first : PySem.W.codeIn K cd_by_first "by_first" = true) (k_by_first : PySem.W.keepIn K (.ref f_by_first) = true)
    (a_many_warps : PySem.W.nsIn K mainGlobals "many_warps" = some (some (.ref f_many_warps))) (l_many_warps : K.lookup f_many_warps = some ⟨oc_many_warps, od_many_warps, .func (PySem.W.fnOf "many_warps" "many_warps" (defArgs s_many_warps) (defBody s_many_warps) (defScope s_many_warps) .none kV_many_warps dc_many_warps pm_many_warps an_many_warps cd_many_warps ct_many_warps), sl_many_warps⟩) (d_many_warps : PySem.W.codeIn K cd_many_warps "many_warps" = true) (k_many_warps : PySem.W.keepIn K (.ref f_many_warps) = true)
    (a_columns_of : PySem.W.nsIn K mainGlobals "columns_of" = some (some (.ref f_columns_of))) (l_columns_of : K.lookup f_columns_of = some ⟨oc_columns_of, od_columns_of, .func (PySem.W.fnOf "columns_of" "columns_of" (defArgs s_columns_of) (defBody s_columns_of) (defScope s_columns_of) .none kV_columns_of dc_columns_of pm_columns_of an_columns_of cd_columns_of ct_columns_of), sl_columns_of⟩) (d_columns_of : PySem.W.codeIn K cd_columns_of "columns_of" = true) (k_columns_of : PySem.W.keepIn K (.ref f_columns_of) = true)
    (a_lines_of : PySem.W.nsIn K mainGlobals "lines_of" = some (some (.ref f_lines_of))) (l_lines_of : K.lookup f_lines_of = some ⟨oc_lines_of, od_lines_of, .func (PySem.W.fnOf "lines_of" "lines_of" (defArgs s_lines_of) (defBody s_lines_of) (defScope s_lines_of) .none kV_lines_of dc_lines_of pm_lines_of an_lines_of cd_lines_of ct_lines_of), sl_lines_of⟩) (d_lines_of : PySem.W.codeIn K cd_lines_of "lines_of" = true) (k_lines_of : PySem.W.keepIn K (.ref f_lines_of) = true)
    (a_many_unlike : PySem.W.nsIn K mainGlobals "many_unlike" = some (some (.ref f_many_unlike))) (l_many_unlike : K.lookup f_many_unlike = some ⟨oc_many_unlike, od_many_unlike, .func (PySem.W.fnOf "many_unlike" "many_unlike" (defArgs s_many_unlike) (defBody s_many_unlike) (defScope s_many_unlike) .none kV_many_unlike dc_many_unlike pm_many_unlike an_many_unlike cd_many_unlike ct_many_unlike), sl_many_unlike⟩) (d_many_unlike : PySem.W.codeIn K cd_many_unlike "many_unlike" = true) (k_many_unlike : PySem.W.keepIn K (.ref f_many_unlike) = true)
    (a_fewest_shafts : PySem.W.nsIn K mainGlobals "fewest_shafts" = some (some (.ref f_fewest_shafts))) (l_fewest_shafts : K.lookup f_fewest_shafts = some ⟨oc_fewest_shafts, od_fewest_shafts, .func (PySem.W.fnOf "fewest_shafts" "fewest_shafts" (defArgs s_fewest_shafts) (defBody s_fewest_shafts) (defScope s_fewest_shafts) .none kV_fewest_shafts dc_fewest_shafts pm_fewest_shafts an_fewest_shafts cd_fewest_shafts ct_fewest_shafts), sl_fewest_shafts⟩) (d_fewest_shafts : PySem.W.codeIn K cd_fewest_shafts "fewest_shafts" = true) (k_fewest_shafts : PySem.W.keepIn K (.ref f_fewest_shafts) = true)
    (a_fewest_treadles : PySem.W.nsIn K mainGlobals "fewest_treadles" = some (some (.ref f_fewest_treadles))) (l_fewest_treadles : K.lookup f_fewest_treadles = some ⟨oc_fewest_treadles, od_fewest_treadles, .func (PySem.W.fnOf "fewest_treadles" "fewest_treadles" (defArgs s_fewest_treadles) (defBody s_fewest_treadles) (defScope s_fewest_treadles) .none kV_fewest_treadles dc_fewest_treadles pm_fewest_treadles an_fewest_treadles cd_fewest_treadles ct_fewest_treadles), sl_fewest_treadles⟩) (d_fewest_treadles : PySem.W.codeIn K cd_fewest_treadles "fewest_treadles" = true) (k_fewest_treadles : PySem.W.keepIn K (.ref f_fewest_treadles) = true)
    (a_want_most : PySem.W.nsIn K mainGlobals "want_most" = some (some (.ref f_want_most))) (l_want_most : K.lookup f_want_most = some ⟨oc_want_most, od_want_most, .func (PySem.W.fnOf "want_most" "want_most" (defArgs s_want_most) (defBody s_want_most) (defScope s_want_most) .none kV_want_most dc_want_most pm_want_most an_want_most cd_want_most ct_want_most), sl_want_most⟩) (d_want_most : PySem.W.codeIn K cd_want_most "want_most" = true) (k_want_most : PySem.W.keepIn K (.ref f_want_most) = true)
    (a_want_numbers : PySem.W.nsIn K mainGlobals "want_numbers" = some (some (.ref f_want_numbers))) (l_want_numbers : K.lookup f_want_numbers = some ⟨oc_want_numbers, od_want_numbers, .func (PySem.W.fnOf "want_numbers" "want_numbers" (defArgs s_want_numbers) (defBody s_want_numbers) (defScope s_want_numbers) .none kV_want_numbers dc_want_numbers pm_want_numbers an_want_numbers cd_want_numbers ct_want_numbers), sl_want_numbers⟩) (d_want_numbers : PySem.W.codeIn K cd_want_numbers "want_numbers" = true) (k_want_numbers : PySem.W.keepIn K (.ref f_want_numbers) = true)
    (a_first_unlike : PySem.W.nsIn K mainGlobals "first_unlike" = some (some (.ref f_first_unlike))) (l_first_unlike : K.lookup f_first_unlike = some ⟨oc_first_unlike, od_first_unlike, .func (PySem.W.fnOf "first_unlike" "first_unlike" (defArgs s_first_unlike) (defBody s_first_unlike) (defScope s_first_unlike) .none kV_first_unlike dc_first_unlike pm_first_unlike an_first_unlike cd_first_unlike ct_first_unlike), sl_first_unlike⟩) (d_first_unlike : PySem.W.codeIn K cd_first_unlike "first_unlike" = true) (k_first_unlike : PySem.W.keepIn K (.ref f_first_unlike) = true)
    (a_pairs_of : PySem.W.nsIn K mainGlobals "pairs_of" = some (some (.ref f_pairs_of))) (l_pairs_of : K.lookup f_pairs_of = some ⟨oc_pairs_of, od_pairs_of, .func (PySem.W.fnOf "pairs_of" "pairs_of" (defArgs s_pairs_of) (defBody s_pairs_of) (defScope s_pairs_of) .none kV_pairs_of dc_pairs_of pm_pairs_of an_pairs_of cd_pairs_of ct_pairs_of), sl_pairs_of⟩) (d_pairs_of : PySem.W.codeIn K cd_pairs_of "pairs_of" = true) (k_pairs_of : PySem.W.keepIn K (.ref f_pairs_of) = true)
    (a_like_lists : PySem.W.nsIn K mainGlobals "like_lists" = some (some (.ref f_like_lists))) (l_like_lists : K.lookup f_like_lists = some ⟨oc_like_lists, od_like_lists, .func (PySem.W.fnOf "like_lists" "like_lists" (defArgs s_like_lists) (defBody s_like_lists) (defScope s_like_lists) .none kV_like_lists dc_like_lists pm_like_lists an_like_lists cd_like_lists ct_like_lists), sl_like_lists⟩) (d_like_lists : PySem.W.codeIn K cd_like_lists "like_lists" = true) (k_like_lists : PySem.W.keepIn K (.ref f_like_lists) = true)
    (a_spread_of : PySem.W.nsIn K mainGlobals "spread_of" = some (some (.ref f_spread_of))) (l_spread_of : K.lookup f_spread_of = some ⟨oc_spread_of, od_spread_of, .func (PySem.W.fnOf "spread_of" "spread_of" (defArgs s_spread_of) (defBody s_spread_of) (defScope s_spread_of) .none kV_spread_of dc_spread_of pm_spread_of an_spread_of cd_spread_of ct_spread_of), sl_spread_of⟩) (d_spread_of : PySem.W.codeIn K cd_spread_of "spread_of" = true) (k_spread_of : PySem.W.keepIn K (.ref f_spread_of) = true)
    (a_spread : PySem.W.nsIn K mainGlobals "spread" = some (some (.ref f_spread))) (l_spread : K.lookup f_spread = some ⟨oc_spread, od_spread, .func (PySem.W.fnOf "spread" "spread" (defArgs s_spread) (defBody s_spread) (defScope s_spread) .none kV_spread dc_spread pm_spread an_spread cd_spread ct_spread), sl_spread⟩) (d_spread : PySem.W.codeIn K cd_spread "spread" = true) (k_spread : PySem.W.keepIn K (.ref f_spread) = true)
    (a__law_pick : PySem.W.nsIn K mainGlobals "_law_pick" = some (some (.ref f__law_pick))) (l__law_pick : K.lookup f__law_pick = some ⟨oc__law_pick, od__law_pick, .func (PySem.W.fnOf "_law_pick" "_law_pick" (defArgs s__law_pick) (defBody s__law_pick) (defScope s__law_pick) .none kV__law_pick dc__law_pick pm__law_pick an__law_pick cd__law_pick ct__law_pick), sl__law_pick⟩) (d__law_pick : PySem.W.codeIn K cd__law_pick "_law_pick" = true) (k__law_pick : PySem.W.keepIn K (.ref f__law_pick) = true)
    (a__law_mixed : PySem.W.nsIn K mainGlobals "_law_mixed" = some (some (.ref f__law_mixed))) (l__law_mixed : K.lookup f__law_mixed = some ⟨oc__law_mixed, od__law_mixed, .func (PySem.W.fnOf "_law_mixed" "_law_mixed" (defArgs s__law_mixed) (defBody s__law_mixed) (defScope s__law_mixed) .none kV__law_mixed dc__law_mixed pm__law_mixed an__law_mixed cd__law_mixed ct__law_mixed), sl__law_mixed⟩) (d__law_mixed : PySem.W.codeIn K cd__law_mixed "_law_mixed" = true) (k__law_mixed : PySem.W.keepIn K (.ref f__law_mixed) = true)
    (a__law_drawn : PySem.W.nsIn K mainGlobals "_law_drawn" = some (some (.ref f__law_drawn))) (l__law_drawn : K.lookup f__law_drawn = some ⟨oc__law_drawn, od__law_drawn, .func (PySem.W.fnOf "_law_drawn" "_law_drawn" (defArgs s__law_drawn) (defBody s__law_drawn) (defScope s__law_drawn) .none kV__law_drawn dc__law_drawn pm__law_drawn an__law_drawn cd__law_drawn ct__law_drawn), sl__law_drawn⟩) (d__law_drawn : PySem.W.codeIn K cd__law_drawn "_law_drawn" = true) (k__law_drawn : PySem.W.keepIn K (.ref f__law_drawn) = true)
    (a_numbered : PySem.W.nsIn K mainGlobals "numbered" = some (some (.ref f_numbered))) (l_numbered : K.lookup f_numbered = some ⟨oc_numbered, od_numbered, .func (PySem.W.fnOf "numbered" "numbered" (defArgs s_numbered) (defBody s_numbered) (defScope s_numbered) .none kV_numbered dc_numbered pm_numbered an_numbered cd_numbered ct_numbered), sl_numbered⟩) (d_numbered : PySem.W.codeIn K cd_numbered "numbered" = true) (k_numbered : PySem.W.keepIn K (.ref f_numbered) = true)
    (a_told_loom : PySem.W.nsIn K mainGlobals "told_loom" = some (some (.ref f_told_loom))) (l_told_loom : K.lookup f_told_loom = some ⟨oc_told_loom, od_told_loom, .func (PySem.W.fnOf "told_loom" "told_loom" (defArgs s_told_loom) (defBody s_told_loom) (defScope s_told_loom) .none kV_told_loom dc_told_loom pm_told_loom an_told_loom cd_told_loom ct_told_loom), sl_told_loom⟩) (d_told_loom : PySem.W.codeIn K cd_told_loom "told_loom" = true) (k_told_loom : PySem.W.keepIn K (.ref f_told_loom) = true)
    (a_loom_of : PySem.W.nsIn K mainGlobals "loom_of" = some (some (.ref f_loom_of))) (l_loom_of : K.lookup f_loom_of = some ⟨oc_loom_of, od_loom_of, .func (PySem.W.fnOf "loom_of" "loom_of" (defArgs s_loom_of) (defBody s_loom_of) (defScope s_loom_of) .none kV_loom_of dc_loom_of pm_loom_of an_loom_of cd_loom_of ct_loom_of), sl_loom_of⟩) (d_loom_of : PySem.W.codeIn K cd_loom_of "loom_of" = true) (k_loom_of : PySem.W.keepIn K (.ref f_loom_of) = true)
    (a__law_looms : PySem.W.nsIn K mainGlobals "_law_looms" = some (some (.ref f__law_looms))) (l__law_looms : K.lookup f__law_looms = some ⟨oc__law_looms, od__law_looms, .func (PySem.W.fnOf "_law_looms" "_law_looms" (defArgs s__law_looms) (defBody s__law_looms) (defScope s__law_looms) .none kV__law_looms dc__law_looms pm__law_looms an__law_looms cd__law_looms ct__law_looms), sl__law_looms⟩) (d__law_looms : PySem.W.codeIn K cd__law_looms "_law_looms" = true) (k__law_looms : PySem.W.keepIn K (.ref f__law_looms) = true)
    (a_are_rising : PySem.W.nsIn K mainGlobals "are_rising" = some (some (.ref f_are_rising))) (l_are_rising : K.lookup f_are_rising = some ⟨oc_are_rising, od_are_rising, .func (PySem.W.fnOf "are_rising" "are_rising" (defArgs s_are_rising) (defBody s_are_rising) (defScope s_are_rising) .none kV_are_rising dc_are_rising pm_are_rising an_are_rising cd_are_rising ct_are_rising), sl_are_rising⟩) (d_are_rising : PySem.W.codeIn K cd_are_rising "are_rising" = true) (k_are_rising : PySem.W.keepIn K (.ref f_are_rising) = true)
    (a_is_lot_of : PySem.W.nsIn K mainGlobals "is_lot_of" = some (some (.ref f_is_lot_of))) (l_is_lot_of : K.lookup f_is_lot_of = some ⟨oc_is_lot_of, od_is_lot_of, .func (PySem.W.fnOf "is_lot_of" "is_lot_of" (defArgs s_is_lot_of) (defBody s_is_lot_of) (defScope s_is_lot_of) .none kV_is_lot_of dc_is_lot_of pm_is_lot_of an_is_lot_of cd_is_lot_of ct_is_lot_of), sl_is_lot_of⟩) (d_is_lot_of : PySem.W.codeIn K cd_is_lot_of "is_lot_of" = true) (k_is_lot_of : PySem.W.keepIn K (.ref f_is_lot_of) = true)
    (a_is_place_of : PySem.W.nsIn K mainGlobals "is_place_of" = some (some (.ref f_is_place_of))) (l_is_place_of : K.lookup f_is_place_of = some ⟨oc_is_place_of, od_is_place_of, .func (PySem.W.fnOf "is_place_of" "is_place_of" (defArgs s_is_place_of) (defBody s_is_place_of) (defScope s_is_place_of) .none kV_is_place_of dc_is_place_of pm_is_place_of an_is_place_of cd_is_place_of ct_is_place_of), sl_is_place_of⟩) (d_is_place_of : PySem.W.codeIn K cd_is_place_of "is_place_of" = true) (k_is_place_of : PySem.W.keepIn K (.ref f_is_place_of) = true)
    (a_is_spread : PySem.W.nsIn K mainGlobals "is_spread" = some (some (.ref f_is_spread))) (l_is_spread : K.lookup f_is_spread = some ⟨oc_is_spread, od_is_spread, .func (PySem.W.fnOf "is_spread" "is_spread" (defArgs s_is_spread) (defBody s_is_spread) (defScope s_is_spread) .none kV_is_spread dc_is_spread pm_is_spread an_is_spread cd_is_spread ct_is_spread), sl_is_spread⟩) (d_is_spread : PySem.W.codeIn K cd_is_spread "is_spread" = true) (k_is_spread : PySem.W.keepIn K (.ref f_is_spread) = true)
    (a_plan_of : PySem.W.nsIn K mainGlobals "plan_of" = some (some (.ref f_plan_of))) (l_plan_of : K.lookup f_plan_of = some ⟨oc_plan_of, od_plan_of, .func (PySem.W.fnOf "plan_of" "plan_of" (defArgs s_plan_of) (defBody s_plan_of) (defScope s_plan_of) .none kV_plan_of dc_plan_of pm_plan_of an_plan_of cd_plan_of ct_plan_of), sl_plan_of⟩) (d_plan_of : PySem.W.codeIn K cd_plan_of "plan_of" = true) (k_plan_of : PySem.W.keepIn K (.ref f_plan_of) = true)
    (a_woven_by : PySem.W.nsIn K mainGlobals "woven_by" = some (some (.ref f_woven_by))) (l_woven_by : K.lookup f_woven_by = some ⟨oc_woven_by, od_woven_by, .func (PySem.W.fnOf "woven_by" "woven_by" (defArgs s_woven_by) (defBody s_woven_by) (defScope s_woven_by) .none kV_woven_by dc_woven_by pm_woven_by an_woven_by cd_woven_by ct_woven_by), sl_woven_by⟩) (d_woven_by : PySem.W.codeIn K cd_woven_by "woven_by" = true) (k_woven_by : PySem.W.keepIn K (.ref f_woven_by) = true)
    (a_are_numbers : PySem.W.nsIn K mainGlobals "are_numbers" = some (some (.ref f_are_numbers))) (l_are_numbers : K.lookup f_are_numbers = some ⟨oc_are_numbers, od_are_numbers, .func (PySem.W.fnOf "are_numbers" "are_numbers" (defArgs s_are_numbers) (defBody s_are_numbers) (defScope s_are_numbers) .none kV_are_numbers dc_are_numbers pm_are_numbers an_are_numbers cd_are_numbers ct_are_numbers), sl_are_numbers⟩) (d_are_numbers : PySem.W.codeIn K cd_are_numbers "are_numbers" = true) (k_are_numbers : PySem.W.keepIn K (.ref f_are_numbers) = true)
    (a_are_lifts : PySem.W.nsIn K mainGlobals "are_lifts" = some (some (.ref f_are_lifts))) (l_are_lifts : K.lookup f_are_lifts = some ⟨oc_are_lifts, od_are_lifts, .func (PySem.W.fnOf "are_lifts" "are_lifts" (defArgs s_are_lifts) (defBody s_are_lifts) (defScope s_are_lifts) .none kV_are_lifts dc_are_lifts pm_are_lifts an_are_lifts cd_are_lifts ct_are_lifts), sl_are_lifts⟩) (d_are_lifts : PySem.W.codeIn K cd_are_lifts "are_lifts" = true) (k_are_lifts : PySem.W.keepIn K (.ref f_are_lifts) = true)
    (a_is_loom_value : PySem.W.nsIn K mainGlobals "is_loom_value" = some (some (.ref f_is_loom_value))) (l_is_loom_value : K.lookup f_is_loom_value = some ⟨oc_is_loom_value, od_is_loom_value, .func (PySem.W.fnOf "is_loom_value" "is_loom_value" (defArgs s_is_loom_value) (defBody s_is_loom_value) (defScope s_is_loom_value) .none kV_is_loom_value dc_is_loom_value pm_is_loom_value an_is_loom_value cd_is_loom_value ct_is_loom_value), sl_is_loom_value⟩) (d_is_loom_value : PySem.W.codeIn K cd_is_loom_value "is_loom_value" = true) (k_is_loom_value : PySem.W.keepIn K (.ref f_is_loom_value) = true)
    (a_is_loom_within : PySem.W.nsIn K mainGlobals "is_loom_within" = some (some (.ref f_is_loom_within))) (l_is_loom_within : K.lookup f_is_loom_within = some ⟨oc_is_loom_within, od_is_loom_within, .func (PySem.W.fnOf "is_loom_within" "is_loom_within" (defArgs s_is_loom_within) (defBody s_is_loom_within) (defScope s_is_loom_within) .none kV_is_loom_within dc_is_loom_within pm_is_loom_within an_is_loom_within cd_is_loom_within ct_is_loom_within), sl_is_loom_within⟩) (d_is_loom_within : PySem.W.codeIn K cd_is_loom_within "is_loom_within" = true) (k_is_loom_within : PySem.W.keepIn K (.ref f_is_loom_within) = true)
    (a__law_bent : PySem.W.nsIn K mainGlobals "_law_bent" = some (some (.ref f__law_bent))) (l__law_bent : K.lookup f__law_bent = some ⟨oc__law_bent, od__law_bent, .func (PySem.W.fnOf "_law_bent" "_law_bent" (defArgs s__law_bent) (defBody s__law_bent) (defScope s__law_bent) .none kV__law_bent dc__law_bent pm__law_bent an__law_bent cd__law_bent ct__law_bent), sl__law_bent⟩) (d__law_bent : PySem.W.codeIn K cd__law_bent "_law_bent" = true) (k__law_bent : PySem.W.keepIn K (.ref f__law_bent) = true)
    (a__law_is_whole : PySem.W.nsIn K mainGlobals "_law_is_whole" = some (some (.ref f__law_is_whole))) (l__law_is_whole : K.lookup f__law_is_whole = some ⟨oc__law_is_whole, od__law_is_whole, .func (PySem.W.fnOf "_law_is_whole" "_law_is_whole" (defArgs s__law_is_whole) (defBody s__law_is_whole) (defScope s__law_is_whole) .none kV__law_is_whole dc__law_is_whole pm__law_is_whole an__law_is_whole cd__law_is_whole ct__law_is_whole), sl__law_is_whole⟩) (d__law_is_whole : PySem.W.codeIn K cd__law_is_whole "_law_is_whole" = true) (k__law_is_whole : PySem.W.keepIn K (.ref f__law_is_whole) = true)
    (a__law_is_spread : PySem.W.nsIn K mainGlobals "_law_is_spread" = some (some (.ref f__law_is_spread))) (l__law_is_spread : K.lookup f__law_is_spread = some ⟨oc__law_is_spread, od__law_is_spread, .func (PySem.W.fnOf "_law_is_spread" "_law_is_spread" (defArgs s__law_is_spread) (defBody s__law_is_spread) (defScope s__law_is_spread) .none kV__law_is_spread dc__law_is_spread pm__law_is_spread an__law_is_spread cd__law_is_spread ct__law_is_spread), sl__law_is_spread⟩) (d__law_is_spread : PySem.W.codeIn K cd__law_is_spread "_law_is_spread" = true) (k__law_is_spread : PySem.W.keepIn K (.ref f__law_is_spread) = true)
    (a_is_loom : PySem.W.nsIn K mainGlobals "is_loom" = some (some (.ref f_is_loom))) (l_is_loom : K.lookup f_is_loom = some ⟨oc_is_loom, od_is_loom, .func (PySem.W.fnOf "is_loom" "is_loom" (defArgs s_is_loom) (defBody s_is_loom) (defScope s_is_loom) .none kV_is_loom dc_is_loom pm_is_loom an_is_loom cd_is_loom ct_is_loom), sl_is_loom⟩) (d_is_loom : PySem.W.codeIn K cd_is_loom "is_loom" = true) (k_is_loom : PySem.W.keepIn K (.ref f_is_loom) = true)
    (a__law_right : PySem.W.nsIn K mainGlobals "_law_right" = some (some (.ref f__law_right))) (l__law_right : K.lookup f__law_right = some ⟨oc__law_right, od__law_right, .func (PySem.W.fnOf "_law_right" "_law_right" (defArgs s__law_right) (defBody s__law_right) (defScope s__law_right) .none kV__law_right dc__law_right pm__law_right an__law_right cd__law_right ct__law_right), sl__law_right⟩) (d__law_right : PySem.W.codeIn K cd__law_right "_law_right" = true) (k__law_right : PySem.W.keepIn K (.ref f__law_right) = true)
    (a__law_pot : PySem.W.nsIn K mainGlobals "_law_pot" = some (some (.ref f__law_pot))) (l__law_pot : K.lookup f__law_pot = some ⟨oc__law_pot, od__law_pot, .func (PySem.W.fnOf "_law_pot" "_law_pot" (defArgs s__law_pot) (defBody s__law_pot) (defScope s__law_pot) .none kV__law_pot dc__law_pot pm__law_pot an__law_pot cd__law_pot ct__law_pot), sl__law_pot⟩) (d__law_pot : PySem.W.codeIn K cd__law_pot "_law_pot" = true) (k__law_pot : PySem.W.keepIn K (.ref f__law_pot) = true)
    (a_law : PySem.W.nsIn K mainGlobals "law" = some (some (.ref f_law))) (l_law : K.lookup f_law = some ⟨oc_law, od_law, .func (PySem.W.fnOf "law" "law" (defArgs s_law) (defBody s_law) (defScope s_law) .none kV_law dc_law pm_law an_law cd_law ct_law), sl_law⟩) (d_law : PySem.W.codeIn K cd_law "law" = true) (k_law : PySem.W.keepIn K (.ref f_law) = true)
    (z_abs : PySem.W.nsIn K mainGlobals "abs" = some none)
    (z_all : PySem.W.nsIn K mainGlobals "all" = some none)
    (z_any : PySem.W.nsIn K mainGlobals "any" = some none)
    (z_bool : PySem.W.nsIn K mainGlobals "bool" = some none)
    (z_divmod : PySem.W.nsIn K mainGlobals "divmod" = some none)
    (z_enumerate : PySem.W.nsIn K mainGlobals "enumerate" = some none)
    (z_int : PySem.W.nsIn K mainGlobals "int" = some none)
    (z_isinstance : PySem.W.nsIn K mainGlobals "isinstance" = some none)
    (z_len : PySem.W.nsIn K mainGlobals "len" = some none)
    (z_list : PySem.W.nsIn K mainGlobals "list" = some none)
    (z_max : PySem.W.nsIn K mainGlobals "max" = some none)
    (z_min : PySem.W.nsIn K mainGlobals "min" = some none)
    (z_range : PySem.W.nsIn K mainGlobals "range" = some none)
    (z_repr : PySem.W.nsIn K mainGlobals "repr" = some none)
    (z_set : PySem.W.nsIn K mainGlobals "set" = some none)
    (z_sorted : PySem.W.nsIn K mainGlobals "sorted" = some none)
    (z_str : PySem.W.nsIn K mainGlobals "str" = some none)
    (z_tuple : PySem.W.nsIn K mainGlobals "tuple" = some none)
    (z_zip : PySem.W.nsIn K mainGlobals "zip" = some none)
    (q_LOOM : PySem.W.nsIn K mainGlobals "LOOM" = some (some (.str "loom" t_LOOM)))
    (q_MOST : PySem.W.nsIn K mainGlobals "MOST" = some (some (.int 12 t_MOST)))
    (q_WARP : PySem.W.nsIn K mainGlobals "WARP" = some (some (.str "warp" t_WARP)))
    (q_WEFT : PySem.W.nsIn K mainGlobals "WEFT" = some (some (.str "weft" t_WEFT)))
    : ∃ fd : FuncData, (∀ (s : Shared) (v : Value), BindsTo s fd ⟨[v], []⟩ [("script", v)]) ∧ ∀ base : Heap, K.In base → base.Ns mainGlobals mg → FnG l.prog w K mg base 9 fa fd ["script"] m_law := by
  have e := hfa.symm.trans (PySem.W.mg_of X G a_law)
  cases e
  have M : Md K mg := ⟨PySem.W.mg_none_of X G z_abs, PySem.W.mg_none_of X G z_all, PySem.W.mg_none_of X G z_any, PySem.W.mg_none_of X G z_bool, PySem.W.mg_none_of X G z_divmod, PySem.W.mg_none_of X G z_enumerate, PySem.W.mg_none_of X G z_int, PySem.W.mg_none_of X G z_isinstance, PySem.W.mg_none_of X G z_len, PySem.W.mg_none_of X G z_list, PySem.W.mg_none_of X G z_max, PySem.W.mg_none_of X G z_min, PySem.W.mg_none_of X G z_range, PySem.W.mg_none_of X G z_repr, PySem.W.mg_none_of X G z_set, PySem.W.mg_none_of X G z_sorted, PySem.W.mg_none_of X G z_str, PySem.W.mg_none_of X G z_tuple, PySem.W.mg_none_of X G z_zip, ⟨⟨_, PySem.W.mg_of X G q_LOOM, ⟨_, rfl⟩⟩, fun _ => .str _⟩, ⟨⟨_, PySem.W.mg_of X G q_MOST, ⟨_, rfl⟩⟩, fun _ => .int _⟩, ⟨⟨_, PySem.W.mg_of X G q_WARP, ⟨_, rfl⟩⟩, fun _ => .str _⟩, ⟨⟨_, PySem.W.mg_of X G q_WEFT, ⟨_, rfl⟩⟩, fun _ => .str _⟩⟩
  have F__law_draw := fun_mk (st := s__law_draw) l__law_draw d__law_draw k__law_draw
  have b__law_draw := F__law_draw.binds (ps := ["pot", "many"]) fun _ _ _ _ _ _ us hl => match us, hl with | [_, _], _ => rfl
  have F__law_loom := fun_mk (st := s__law_loom) l__law_loom d__law_loom k__law_loom
  have b__law_loom := F__law_loom.binds (ps := ["pot", "most"]) fun _ _ _ _ _ _ us hl => match us, hl with | [_, _], _ => rfl
  have F__law_woven := fun_mk (st := s__law_woven) l__law_woven d__law_woven k__law_woven
  have b__law_woven := F__law_woven.binds (ps := ["loom"]) fun _ _ _ _ _ _ us hl => match us, hl with | [_], _ => rfl
  have F_is_tuple := fun_mk (st := s_is_tuple) l_is_tuple d_is_tuple k_is_tuple
  have b_is_tuple := F_is_tuple.binds (ps := ["value", "many"]) fun _ _ _ _ _ _ us hl => match us, hl with | [_, _], _ => rfl
  have F_is_headed := fun_mk (st := s_is_headed) l_is_headed d_is_headed k_is_headed
  have b_is_headed := F_is_headed.binds (ps := ["value", "word"]) fun _ _ _ _ _ _ us hl => match us, hl with | [_, _], _ => rfl
  have F_is_integer := fun_mk (st := s_is_integer) l_is_integer d_is_integer k_is_integer
  have b_is_integer := F_is_integer.binds (ps := ["value"]) fun _ _ _ _ _ _ us hl => match us, hl with | [_], _ => rfl
  have F_is_within := fun_mk (st := s_is_within) l_is_within d_is_within k_is_within
  have b_is_within := F_is_within.binds (ps := ["value", "least", "most"]) fun _ _ _ _ _ _ us hl => match us, hl with | [_, _, _], _ => rfl
  have F_are_rows_of := fun_mk (st := s_are_rows_of) l_are_rows_of d_are_rows_of k_are_rows_of
  have b_are_rows_of := F_are_rows_of.binds (ps := ["value", "signs"]) fun _ _ _ _ _ _ us hl => match us, hl with | [_, _], _ => rfl
  have F_is_draft_value := fun_mk (st := s_is_draft_value) l_is_draft_value d_is_draft_value k_is_draft_value
  have b_is_draft_value := F_is_draft_value.binds (ps := ["value"]) fun _ _ _ _ _ _ us hl => match us, hl with | [_], _ => rfl
  have F_want_draft := fun_mk (st := s_want_draft) l_want_draft d_want_draft k_want_draft
  have b_want_draft := F_want_draft.binds (ps := ["draft"]) fun _ _ _ _ _ _ us hl => match us, hl with | [_], _ => rfl
  have F_by_first := fun_mk (st := s_by_first) l_by_first d_by_first k_by_first
  have b_by_first := F_by_first.binds (ps := ["values"]) fun _ _ _ _ _ _ us hl => match us, hl with | [_], _ => rfl
  have F_many_warps := fun_mk (st := s_many_warps) l_many_warps d_many_warps k_many_warps
  have b_many_warps := F_many_warps.binds (ps := ["draft"]) fun _ _ _ _ _ _ us hl => match us, hl with | [_], _ => rfl
  have F_columns_of := fun_mk (st := s_columns_of) l_columns_of d_columns_of k_columns_of
  have b_columns_of := F_columns_of.binds (ps := ["draft"]) fun _ _ _ _ _ _ us hl => match us, hl with | [_], _ => rfl
  have F_lines_of := fun_mk (st := s_lines_of) l_lines_of d_lines_of k_lines_of
  have b_lines_of := F_lines_of.binds (ps := ["draft", "kind"]) fun _ _ _ _ _ _ us hl => match us, hl with | [_, _], _ => rfl
  have F_many_unlike := fun_mk (st := s_many_unlike) l_many_unlike d_many_unlike k_many_unlike
  have b_many_unlike := F_many_unlike.binds (ps := ["draft", "kind"]) fun _ _ _ _ _ _ us hl => match us, hl with | [_, _], _ => rfl
  have F_fewest_shafts := fun_mk (st := s_fewest_shafts) l_fewest_shafts d_fewest_shafts k_fewest_shafts
  have b_fewest_shafts := F_fewest_shafts.binds (ps := ["draft"]) fun _ _ _ _ _ _ us hl => match us, hl with | [_], _ => rfl
  have F_fewest_treadles := fun_mk (st := s_fewest_treadles) l_fewest_treadles d_fewest_treadles k_fewest_treadles
  have b_fewest_treadles := F_fewest_treadles.binds (ps := ["draft"]) fun _ _ _ _ _ _ us hl => match us, hl with | [_], _ => rfl
  have F_want_most := fun_mk (st := s_want_most) l_want_most d_want_most k_want_most
  have b_want_most := F_want_most.binds (ps := ["value"]) fun _ _ _ _ _ _ us hl => match us, hl with | [_], _ => rfl
  have F_want_numbers := fun_mk (st := s_want_numbers) l_want_numbers d_want_numbers k_want_numbers
  have b_want_numbers := F_want_numbers.binds (ps := ["draft", "shafts", "treadles"]) fun _ _ _ _ _ _ us hl => match us, hl with | [_, _, _], _ => rfl
  have F_first_unlike := fun_mk (st := s_first_unlike) l_first_unlike d_first_unlike k_first_unlike
  have b_first_unlike := F_first_unlike.binds (ps := ["lines", "one", "other"]) fun _ _ _ _ _ _ us hl => match us, hl with | [_, _, _], _ => rfl
  have F_pairs_of := fun_mk (st := s_pairs_of) l_pairs_of d_pairs_of k_pairs_of
  have b_pairs_of := F_pairs_of.binds (ps := ["numbers"]) fun _ _ _ _ _ _ us hl => match us, hl with | [_], _ => rfl
  have F_like_lists := fun_mk (st := s_like_lists) l_like_lists d_like_lists k_like_lists
  have b_like_lists := F_like_lists.binds (ps := ["lines"]) fun _ _ _ _ _ _ us hl => match us, hl with | [_], _ => rfl
  have F_spread_of := fun_mk (st := s_spread_of) l_spread_of d_spread_of k_spread_of
  have b_spread_of := F_spread_of.binds (ps := ["draft", "kind", "number"]) fun _ _ _ _ _ _ us hl => match us, hl with | [_, _, _], _ => rfl
  have F_spread := fun_mk (st := s_spread) l_spread d_spread k_spread
  have b_spread := F_spread.binds (ps := ["draft", "shafts", "treadles"]) fun _ _ _ _ _ _ us hl => match us, hl with | [_, _, _], _ => rfl
  have F__law_pick := fun_mk (st := s__law_pick) l__law_pick d__law_pick k__law_pick
  have b__law_pick := F__law_pick.binds (ps := ["pot", "some"]) fun _ _ _ _ _ _ us hl => match us, hl with | [_, _], _ => rfl
  have F__law_mixed := fun_mk (st := s__law_mixed) l__law_mixed d__law_mixed k__law_mixed
  have b__law_mixed := F__law_mixed.binds (ps := ["pot", "some"]) fun _ _ _ _ _ _ us hl => match us, hl with | [_, _], _ => rfl
  have F__law_drawn := fun_mk (st := s__law_drawn) l__law_drawn d__law_drawn k__law_drawn
  have b__law_drawn := F__law_drawn.binds (ps := ["pot", "draft", "number"]) fun _ _ _ _ _ _ us hl => match us, hl with | [_, _, _], _ => rfl
  have F_numbered := fun_mk (st := s_numbered) l_numbered d_numbered k_numbered
  have b_numbered := F_numbered.binds (ps := ["values"]) fun _ _ _ _ _ _ us hl => match us, hl with | [_], _ => rfl
  have F_told_loom := fun_mk (st := s_told_loom) l_told_loom d_told_loom k_told_loom
  have b_told_loom := F_told_loom.binds (ps := ["draft"]) fun _ _ _ _ _ _ us hl => match us, hl with | [_], _ => rfl
  have F_loom_of := fun_mk (st := s_loom_of) l_loom_of d_loom_of k_loom_of
  have b_loom_of := F_loom_of.binds (ps := ["draft"]) fun _ _ _ _ _ _ us hl => match us, hl with | [_], _ => rfl
  have F__law_looms := fun_mk (st := s__law_looms) l__law_looms d__law_looms k__law_looms
  have b__law_looms := F__law_looms.binds (ps := ["pot", "loom", "draft"]) fun _ _ _ _ _ _ us hl => match us, hl with | [_, _, _], _ => rfl
  have F_are_rising := fun_mk (st := s_are_rising) l_are_rising d_are_rising k_are_rising
  have b_are_rising := F_are_rising.binds (ps := ["values"]) fun _ _ _ _ _ _ us hl => match us, hl with | [_], _ => rfl
  have F_is_lot_of := fun_mk (st := s_is_lot_of) l_is_lot_of d_is_lot_of k_is_lot_of
  have b_is_lot_of := F_is_lot_of.binds (ps := ["value", "many"]) fun _ _ _ _ _ _ us hl => match us, hl with | [_, _], _ => rfl
  have F_is_place_of := fun_mk (st := s_is_place_of) l_is_place_of d_is_place_of k_is_place_of
  have b_is_place_of := F_is_place_of.binds (ps := ["lines", "value", "pair"]) fun _ _ _ _ _ _ us hl => match us, hl with | [_, _, _], _ => rfl
  have F_is_spread := fun_mk (st := s_is_spread) l_is_spread d_is_spread k_is_spread
  have b_is_spread := F_is_spread.binds (ps := ["draft", "shafts", "treadles", "value"]) fun _ _ _ _ _ _ us hl => match us, hl with | [_, _, _, _], _ => rfl
  have F_plan_of := fun_mk (st := s_plan_of) l_plan_of d_plan_of k_plan_of
  have b_plan_of := F_plan_of.binds (ps := ["loom"]) fun _ _ _ _ _ _ us hl => match us, hl with | [_], _ => rfl
  have F_woven_by := fun_mk (st := s_woven_by) l_woven_by d_woven_by k_woven_by
  have b_woven_by := F_woven_by.binds (ps := ["loom"]) fun _ _ _ _ _ _ us hl => match us, hl with | [_], _ => rfl
  have F_are_numbers := fun_mk (st := s_are_numbers) l_are_numbers d_are_numbers k_are_numbers
  have b_are_numbers := F_are_numbers.binds (ps := ["value", "many"]) fun _ _ _ _ _ _ us hl => match us, hl with | [_, _], _ => rfl
  have F_are_lifts := fun_mk (st := s_are_lifts) l_are_lifts d_are_lifts k_are_lifts
  have b_are_lifts := F_are_lifts.binds (ps := ["value", "shafts"]) fun _ _ _ _ _ _ us hl => match us, hl with | [_, _], _ => rfl
  have F_is_loom_value := fun_mk (st := s_is_loom_value) l_is_loom_value d_is_loom_value k_is_loom_value
  have b_is_loom_value := F_is_loom_value.binds (ps := ["value"]) fun _ _ _ _ _ _ us hl => match us, hl with | [_], _ => rfl
  have F_is_loom_within := fun_mk (st := s_is_loom_within) l_is_loom_within d_is_loom_within k_is_loom_within
  have b_is_loom_within := F_is_loom_within.binds (ps := ["draft", "shafts", "treadles", "value"]) fun _ _ _ _ _ _ us hl => match us, hl with | [_, _, _, _], _ => rfl
  have F__law_bent := fun_mk (st := s__law_bent) l__law_bent d__law_bent k__law_bent
  have b__law_bent := F__law_bent.binds (ps := ["pot", "value"]) fun _ _ _ _ _ _ us hl => match us, hl with | [_, _], _ => rfl
  have F__law_is_whole := fun_mk (st := s__law_is_whole) l__law_is_whole d__law_is_whole k__law_is_whole
  have b__law_is_whole := F__law_is_whole.binds (ps := ["value", "most"]) fun _ _ _ _ _ _ us hl => match us, hl with | [_, _], _ => rfl
  have F__law_is_spread := fun_mk (st := s__law_is_spread) l__law_is_spread d__law_is_spread k__law_is_spread
  have b__law_is_spread := F__law_is_spread.binds (ps := ["draft", "shafts", "treadles", "value"]) fun _ _ _ _ _ _ us hl => match us, hl with | [_, _, _, _], _ => rfl
  have F_is_loom := fun_mk (st := s_is_loom) l_is_loom d_is_loom k_is_loom
  have b_is_loom := F_is_loom.binds (ps := ["value"]) fun _ _ _ _ _ _ us hl => match us, hl with | [_], _ => rfl
  have F__law_right := fun_mk (st := s__law_right) l__law_right d__law_right k__law_right
  have b__law_right := F__law_right.binds (ps := ["pot"]) fun _ _ _ _ _ _ us hl => match us, hl with | [_], _ => rfl
  have F__law_pot := fun_mk (st := s__law_pot) l__law_pot d__law_pot k__law_pot
  have b__law_pot := F__law_pot.binds (ps := ["script", "k"]) fun _ _ _ _ _ _ us hl => match us, hl with | [_, _], _ => rfl
  have F_law := fun_mk (st := s_law) l_law d_law k_law
  have kb_is_loom_within_0_value_treadles_shafts_draft : KwB K _ ["draft", "shafts", "treadles", "value"] ["value", "treadles", "shafts", "draft"] [3, 2, 1, 0] := kwb F_is_loom_within fun _ _ _ _ _ _ us ws h1 h2 => match us, ws, h1, h2 with | [], [_, _, _, _], _, _ => rfl
  have kb_is_spread_0_value_treadles_shafts_draft : KwB K _ ["draft", "shafts", "treadles", "value"] ["value", "treadles", "shafts", "draft"] [3, 2, 1, 0] := kwb F_is_spread fun _ _ _ _ _ _ us ws h1 h2 => match us, ws, h1, h2 with | [], [_, _, _, _], _, _ => rfl
  refine ⟨PySem.W.fnOf "law" "law" (defArgs s_law) (defBody s_law) (defScope s_law) .none kV_law dc_law pm_law an_law cd_law ct_law, fun s v => .of_eq rfl, fun base _ _ => ?_⟩
  have G__law_draw : FnG l.prog w K mg base 1 f__law_draw _ ["pot", "many"] m__law_draw := g__law_draw (k := 0) F__law_draw M
  have G__law_loom : FnG l.prog w K mg base 2 f__law_loom _ ["pot", "most"] m__law_loom := g__law_loom (k := 1) F__law_loom M ⟨G__law_draw.mono (by decide), PySem.W.mg_of X G a__law_draw, F__law_draw.kp, b__law_draw⟩
  have G__law_woven : FnG l.prog w K mg base 1 f__law_woven _ ["loom"] m__law_woven := g__law_woven (k := 0) F__law_woven M
  have G_is_tuple : FnG l.prog w K mg base 1 f_is_tuple _ ["value", "many"] m_is_tuple := g_is_tuple (k := 0) F_is_tuple M
  have G_is_headed : FnG l.prog w K mg base 2 f_is_headed _ ["value", "word"] m_is_headed := g_is_headed (k := 1) F_is_headed M ⟨G_is_tuple.mono (by decide), PySem.W.mg_of X G a_is_tuple, F_is_tuple.kp, b_is_tuple⟩
  have G_is_integer : FnG l.prog w K mg base 1 f_is_integer _ ["value"] m_is_integer := g_is_integer (k := 0) F_is_integer M
  have G_is_within : FnG l.prog w K mg base 2 f_is_within _ ["value", "least", "most"] m_is_within := g_is_within (k := 1) F_is_within M ⟨G_is_integer.mono (by decide), PySem.W.mg_of X G a_is_integer, F_is_integer.kp, b_is_integer⟩
  have G_are_rows_of : FnG l.prog w K mg base 3 f_are_rows_of _ ["value", "signs"] m_are_rows_of := g_are_rows_of (k := 2) F_are_rows_of M ⟨G_is_within.mono (by decide), PySem.W.mg_of X G a_is_within, F_is_within.kp, b_is_within⟩
  have G_is_draft_value : FnG l.prog w K mg base 4 f_is_draft_value _ ["value"] m_is_draft_value := g_is_draft_value (k := 3) F_is_draft_value M ⟨G_are_rows_of.mono (by decide), PySem.W.mg_of X G a_are_rows_of, F_are_rows_of.kp, b_are_rows_of⟩ ⟨G_is_headed.mono (by decide), PySem.W.mg_of X G a_is_headed, F_is_headed.kp, b_is_headed⟩
  have G_want_draft : FnG l.prog w K mg base 5 f_want_draft _ ["draft"] m_want_draft := g_want_draft (k := 4) F_want_draft M ⟨G_is_draft_value.mono (by decide), PySem.W.mg_of X G a_is_draft_value, F_is_draft_value.kp, b_is_draft_value⟩
  have G_by_first : FnG l.prog w K mg base 1 f_by_first _ ["values"] m_by_first := g_by_first (k := 0) F_by_first M
  have G_many_warps : FnG l.prog w K mg base 1 f_many_warps _ ["draft"] m_many_warps := g_many_warps (k := 0) F_many_warps M
  have G_columns_of : FnG l.prog w K mg base 2 f_columns_of _ ["draft"] m_columns_of := g_columns_of (k := 1) F_columns_of M ⟨G_many_warps.mono (by decide), PySem.W.mg_of X G a_many_warps, F_many_warps.kp, b_many_warps⟩
  have G_lines_of : FnG l.prog w K mg base 3 f_lines_of _ ["draft", "kind"] m_lines_of := g_lines_of (k := 2) F_lines_of M ⟨G_columns_of.mono (by decide), PySem.W.mg_of X G a_columns_of, F_columns_of.kp, b_columns_of⟩
  have G_many_unlike : FnG l.prog w K mg base 4 f_many_unlike _ ["draft", "kind"] m_many_unlike := g_many_unlike (k := 3) F_many_unlike M ⟨G_by_first.mono (by decide), PySem.W.mg_of X G a_by_first, F_by_first.kp, b_by_first⟩ ⟨G_lines_of.mono (by decide), PySem.W.mg_of X G a_lines_of, F_lines_of.kp, b_lines_of⟩
  have G_fewest_shafts : FnG l.prog w K mg base 6 f_fewest_shafts _ ["draft"] m_fewest_shafts := g_fewest_shafts (k := 5) F_fewest_shafts M ⟨G_many_unlike.mono (by decide), PySem.W.mg_of X G a_many_unlike, F_many_unlike.kp, b_many_unlike⟩ ⟨G_want_draft.mono (by decide), PySem.W.mg_of X G a_want_draft, F_want_draft.kp, b_want_draft⟩
  have G_fewest_treadles : FnG l.prog w K mg base 6 f_fewest_treadles _ ["draft"] m_fewest_treadles := g_fewest_treadles (k := 5) F_fewest_treadles M ⟨G_many_unlike.mono (by decide), PySem.W.mg_of X G a_many_unlike, F_many_unlike.kp, b_many_unlike⟩ ⟨G_want_draft.mono (by decide), PySem.W.mg_of X G a_want_draft, F_want_draft.kp, b_want_draft⟩
  have G_want_most : FnG l.prog w K mg base 3 f_want_most _ ["value"] m_want_most := g_want_most (k := 2) F_want_most M ⟨G_is_within.mono (by decide), PySem.W.mg_of X G a_is_within, F_is_within.kp, b_is_within⟩
  have G_want_numbers : FnG l.prog w K mg base 6 f_want_numbers _ ["draft", "shafts", "treadles"] m_want_numbers := g_want_numbers (k := 5) F_want_numbers M ⟨G_want_most.mono (by decide), PySem.W.mg_of X G a_want_most, F_want_most.kp, b_want_most⟩ ⟨G_want_draft.mono (by decide), PySem.W.mg_of X G a_want_draft, F_want_draft.kp, b_want_draft⟩
  have G_first_unlike : FnG l.prog w K mg base 1 f_first_unlike _ ["lines", "one", "other"] m_first_unlike := g_first_unlike (k := 0) F_first_unlike M
  have G_pairs_of : FnG l.prog w K mg base 1 f_pairs_of _ ["numbers"] m_pairs_of := g_pairs_of (k := 0) F_pairs_of M
  have G_like_lists : FnG l.prog w K mg base 2 f_like_lists _ ["lines"] m_like_lists := g_like_lists (k := 1) F_like_lists M ⟨G_by_first.mono (by decide), PySem.W.mg_of X G a_by_first, F_by_first.kp, b_by_first⟩
  have G_spread_of : FnG l.prog w K mg base 4 f_spread_of _ ["draft", "kind", "number"] m_spread_of := g_spread_of (k := 3) F_spread_of M ⟨G_pairs_of.mono (by decide), PySem.W.mg_of X G a_pairs_of, F_pairs_of.kp, b_pairs_of⟩ ⟨G_first_unlike.mono (by decide), PySem.W.mg_of X G a_first_unlike, F_first_unlike.kp, b_first_unlike⟩ ⟨G_like_lists.mono (by decide), PySem.W.mg_of X G a_like_lists, F_like_lists.kp, b_like_lists⟩ ⟨G_lines_of.mono (by decide), PySem.W.mg_of X G a_lines_of, F_lines_of.kp, b_lines_of⟩
  have G_spread : FnG l.prog w K mg base 7 f_spread _ ["draft", "shafts", "treadles"] m_spread := g_spread (k := 6) F_spread M ⟨G_many_unlike.mono (by decide), PySem.W.mg_of X G a_many_unlike, F_many_unlike.kp, b_many_unlike⟩ ⟨G_spread_of.mono (by decide), PySem.W.mg_of X G a_spread_of, F_spread_of.kp, b_spread_of⟩ ⟨G_want_numbers.mono (by decide), PySem.W.mg_of X G a_want_numbers, F_want_numbers.kp, b_want_numbers⟩
  have G__law_pick : FnG l.prog w K mg base 2 f__law_pick _ ["pot", "some"] m__law_pick := g__law_pick (k := 1) F__law_pick M ⟨G__law_draw.mono (by decide), PySem.W.mg_of X G a__law_draw, F__law_draw.kp, b__law_draw⟩
  have G__law_mixed : FnG l.prog w K mg base 2 f__law_mixed _ ["pot", "some"] m__law_mixed := g__law_mixed (k := 1) F__law_mixed M ⟨G__law_draw.mono (by decide), PySem.W.mg_of X G a__law_draw, F__law_draw.kp, b__law_draw⟩
  have G__law_drawn : FnG l.prog w K mg base 3 f__law_drawn _ ["pot", "draft", "number"] m__law_drawn := g__law_drawn (k := 2) F__law_drawn M ⟨G__law_pick.mono (by decide), PySem.W.mg_of X G a__law_pick, F__law_pick.kp, b__law_pick⟩ ⟨G__law_mixed.mono (by decide), PySem.W.mg_of X G a__law_mixed, F__law_mixed.kp, b__law_mixed⟩
  have G_numbered : FnG l.prog w K mg base 2 f_numbered _ ["values"] m_numbered := g_numbered (k := 1) F_numbered M ⟨G_by_first.mono (by decide), PySem.W.mg_of X G a_by_first, F_by_first.kp, b_by_first⟩
  have G_told_loom : FnG l.prog w K mg base 3 f_told_loom _ ["draft"] m_told_loom := g_told_loom (k := 2) F_told_loom M ⟨G_numbered.mono (by decide), PySem.W.mg_of X G a_numbered, F_numbered.kp, b_numbered⟩ ⟨G_by_first.mono (by decide), PySem.W.mg_of X G a_by_first, F_by_first.kp, b_by_first⟩ ⟨G_columns_of.mono (by decide), PySem.W.mg_of X G a_columns_of, F_columns_of.kp, b_columns_of⟩
  have G_loom_of : FnG l.prog w K mg base 6 f_loom_of _ ["draft"] m_loom_of := g_loom_of (k := 5) F_loom_of M ⟨G_told_loom.mono (by decide), PySem.W.mg_of X G a_told_loom, F_told_loom.kp, b_told_loom⟩ ⟨G_want_draft.mono (by decide), PySem.W.mg_of X G a_want_draft, F_want_draft.kp, b_want_draft⟩
  have G__law_looms : FnG l.prog w K mg base 7 f__law_looms _ ["pot", "loom", "draft"] m__law_looms := g__law_looms (k := 6) F__law_looms M ⟨G_loom_of.mono (by decide), PySem.W.mg_of X G a_loom_of, F_loom_of.kp, b_loom_of⟩ ⟨G__law_draw.mono (by decide), PySem.W.mg_of X G a__law_draw, F__law_draw.kp, b__law_draw⟩
  have G_are_rising : FnG l.prog w K mg base 1 f_are_rising _ ["values"] m_are_rising := g_are_rising (k := 0) F_are_rising M
  have G_is_lot_of : FnG l.prog w K mg base 3 f_is_lot_of _ ["value", "many"] m_is_lot_of := g_is_lot_of (k := 2) F_is_lot_of M ⟨G_are_rising.mono (by decide), PySem.W.mg_of X G a_are_rising, F_are_rising.kp, b_are_rising⟩ ⟨G_is_within.mono (by decide), PySem.W.mg_of X G a_is_within, F_is_within.kp, b_is_within⟩
  have G_is_place_of : FnG l.prog w K mg base 3 f_is_place_of _ ["lines", "value", "pair"] m_is_place_of := g_is_place_of (k := 2) F_is_place_of M ⟨G_is_within.mono (by decide), PySem.W.mg_of X G a_is_within, F_is_within.kp, b_is_within⟩ ⟨G_is_tuple.mono (by decide), PySem.W.mg_of X G a_is_tuple, F_is_tuple.kp, b_is_tuple⟩
  have G_is_spread : FnG l.prog w K mg base 7 f_is_spread _ ["draft", "shafts", "treadles", "value"] m_is_spread := g_is_spread (k := 6) F_is_spread M ⟨G_is_place_of.mono (by decide), PySem.W.mg_of X G a_is_place_of, F_is_place_of.kp, b_is_place_of⟩ ⟨G_is_tuple.mono (by decide), PySem.W.mg_of X G a_is_tuple, F_is_tuple.kp, b_is_tuple⟩ ⟨G_pairs_of.mono (by decide), PySem.W.mg_of X G a_pairs_of, F_pairs_of.kp, b_pairs_of⟩ ⟨G_is_lot_of.mono (by decide), PySem.W.mg_of X G a_is_lot_of, F_is_lot_of.kp, b_is_lot_of⟩ ⟨G_lines_of.mono (by decide), PySem.W.mg_of X G a_lines_of, F_lines_of.kp, b_lines_of⟩ ⟨G_want_numbers.mono (by decide), PySem.W.mg_of X G a_want_numbers, F_want_numbers.kp, b_want_numbers⟩
  have G_plan_of : FnG l.prog w K mg base 1 f_plan_of _ ["loom"] m_plan_of := g_plan_of (k := 0) F_plan_of M
  have G_woven_by : FnG l.prog w K mg base 2 f_woven_by _ ["loom"] m_woven_by := g_woven_by (k := 1) F_woven_by M ⟨G_plan_of.mono (by decide), PySem.W.mg_of X G a_plan_of, F_plan_of.kp, b_plan_of⟩
  have G_are_numbers : FnG l.prog w K mg base 3 f_are_numbers _ ["value", "many"] m_are_numbers := g_are_numbers (k := 2) F_are_numbers M ⟨G_is_within.mono (by decide), PySem.W.mg_of X G a_is_within, F_is_within.kp, b_is_within⟩
  have G_are_lifts : FnG l.prog w K mg base 4 f_are_lifts _ ["value", "shafts"] m_are_lifts := g_are_lifts (k := 3) F_are_lifts M ⟨G_is_lot_of.mono (by decide), PySem.W.mg_of X G a_is_lot_of, F_is_lot_of.kp, b_is_lot_of⟩
  have G_is_loom_value : FnG l.prog w K mg base 5 f_is_loom_value _ ["value"] m_is_loom_value := g_is_loom_value (k := 4) F_is_loom_value M ⟨G_are_numbers.mono (by decide), PySem.W.mg_of X G a_are_numbers, F_are_numbers.kp, b_are_numbers⟩ ⟨G_are_lifts.mono (by decide), PySem.W.mg_of X G a_are_lifts, F_are_lifts.kp, b_are_lifts⟩ ⟨G_is_within.mono (by decide), PySem.W.mg_of X G a_is_within, F_is_within.kp, b_is_within⟩ ⟨G_is_tuple.mono (by decide), PySem.W.mg_of X G a_is_tuple, F_is_tuple.kp, b_is_tuple⟩
  have G_is_loom_within : FnG l.prog w K mg base 7 f_is_loom_within _ ["draft", "shafts", "treadles", "value"] m_is_loom_within := g_is_loom_within (k := 6) F_is_loom_within M ⟨G_woven_by.mono (by decide), PySem.W.mg_of X G a_woven_by, F_woven_by.kp, b_woven_by⟩ ⟨G_is_loom_value.mono (by decide), PySem.W.mg_of X G a_is_loom_value, F_is_loom_value.kp, b_is_loom_value⟩ ⟨G_want_numbers.mono (by decide), PySem.W.mg_of X G a_want_numbers, F_want_numbers.kp, b_want_numbers⟩
  have G__law_bent : FnG l.prog w K mg base 3 f__law_bent _ ["pot", "value"] m__law_bent := g__law_bent (k := 2) F__law_bent M ⟨G__law_pick.mono (by decide), PySem.W.mg_of X G a__law_pick, F__law_pick.kp, b__law_pick⟩ ⟨G__law_draw.mono (by decide), PySem.W.mg_of X G a__law_draw, F__law_draw.kp, b__law_draw⟩
  have G__law_is_whole : FnG l.prog w K mg base 1 f__law_is_whole _ ["value", "most"] m__law_is_whole := g__law_is_whole (k := 0) F__law_is_whole M
  have G__law_is_spread : FnG l.prog w K mg base 2 f__law_is_spread _ ["draft", "shafts", "treadles", "value"] m__law_is_spread := g__law_is_spread (k := 1) F__law_is_spread M ⟨G__law_is_whole.mono (by decide), PySem.W.mg_of X G a__law_is_whole, F__law_is_whole.kp, b__law_is_whole⟩
  have G_is_loom : FnG l.prog w K mg base 6 f_is_loom _ ["value"] m_is_loom := g_is_loom (k := 5) F_is_loom M ⟨G_is_loom_value.mono (by decide), PySem.W.mg_of X G a_is_loom_value, F_is_loom_value.kp, b_is_loom_value⟩
  have G__law_right : FnG l.prog w K mg base 8 f__law_right _ ["pot"] m__law_right := g__law_right (k := 7) F__law_right M ⟨G__law_looms.mono (by decide), PySem.W.mg_of X G a__law_looms, F__law_looms.kp, b__law_looms⟩ ⟨G_is_loom_within.mono (by decide), PySem.W.mg_of X G a_is_loom_within, F_is_loom_within.kp, b_is_loom_within⟩ ⟨G__law_woven.mono (by decide), PySem.W.mg_of X G a__law_woven, F__law_woven.kp, b__law_woven⟩ ⟨G_is_loom.mono (by decide), PySem.W.mg_of X G a_is_loom, F_is_loom.kp, b_is_loom⟩ ⟨G_is_spread.mono (by decide), PySem.W.mg_of X G a_is_spread, F_is_spread.kp, b_is_spread⟩ ⟨G__law_is_spread.mono (by decide), PySem.W.mg_of X G a__law_is_spread, F__law_is_spread.kp, b__law_is_spread⟩ ⟨G__law_bent.mono (by decide), PySem.W.mg_of X G a__law_bent, F__law_bent.kp, b__law_bent⟩ ⟨G__law_drawn.mono (by decide), PySem.W.mg_of X G a__law_drawn, F__law_drawn.kp, b__law_drawn⟩ ⟨G_spread.mono (by decide), PySem.W.mg_of X G a_spread, F_spread.kp, b_spread⟩ ⟨G__law_draw.mono (by decide), PySem.W.mg_of X G a__law_draw, F__law_draw.kp, b__law_draw⟩ ⟨G_fewest_shafts.mono (by decide), PySem.W.mg_of X G a_fewest_shafts, F_fewest_shafts.kp, b_fewest_shafts⟩ ⟨G_fewest_treadles.mono (by decide), PySem.W.mg_of X G a_fewest_treadles, F_fewest_treadles.kp, b_fewest_treadles⟩ ⟨G__law_loom.mono (by decide), PySem.W.mg_of X G a__law_loom, F__law_loom.kp, b__law_loom⟩ kb_is_loom_within_0_value_treadles_shafts_draft kb_is_spread_0_value_treadles_shafts_draft
  have G__law_pot : FnG l.prog w K mg base 1 f__law_pot _ ["script", "k"] m__law_pot := g__law_pot (k := 0) F__law_pot M
  have G_law : FnG l.prog w K mg base 9 fa _ ["script"] m_law := g_law (k := 8) F_law M ⟨G__law_right.mono (by decide), PySem.W.mg_of X G a__law_right, F__law_right.kp, b__law_right⟩ ⟨G__law_pot.mono (by decide), PySem.W.mg_of X G a__law_pot, F__law_pot.kp, b__law_pot⟩
  exact G_law
end PK88

set_option Elab.async false
set_option linter.all false
set_option maxRecDepth 100000
set_option maxHeartbeats 4000000
namespace PK88
open PySem DL
@[simp] theorem e_is_integer {v : PyData} (h : okT v = true) : m_is_integer [.d v] = some (.d (.bool (isInt v)), [.d v]) := by
  cases v with
  | dict kvs => rw [okT_dict h]; simp [m_is_integer, defn, isInt, tgIs]
  | _ => simp [m_is_integer, defn, isInt, tgIs]
@[simp] theorem e_is_within {v : PyData} {a b : Int} (h : okT v = true) : m_is_within [.d v, .d (.int a), .d (.int b)] = some (.d (.bool (isIn a b v)), [.d v, .d (.int a), .d (.int b)]) := by
  simp [m_is_within, defn, e_is_integer h]
  cases v with
  | int i =>
    simp [isInt, isIn]
    by_cases h1 : a ≤ i
    · simp [h1]
    · simp [h1, Int.not_le.mp h1]
  | _ => simp [isInt, isIn]
/-- every item of xs within 0 .. n - 1 -/
def inAll (n : Int) (xs : List PyData) : Bool := xs.all (isIn 0 (n - 1))
def areNum (n : Int) : PyData → Bool
  | .tuple xs => decide (1 ≤ xs.length ∧ xs.length ≤ 12) && inAll n xs
  | _ => false
def okTs (xs : List PyData) : Bool := xs.all okT
def okTT : PyData → Bool
  | .tuple xs => okTs xs
  | v => okT v
theorem okTT_ok {v : PyData} (h : okTT v = true) : okT v = true := by
  cases v with
  | tuple xs => rfl
  | _ => exact h
@[simp] theorem e_are_numbers {v : PyData} {n : Int} (h : okTT v = true) : m_are_numbers [.d v, .d (.int n)] = some (.d (.bool (areNum n v)), [.d v, .d (.int n)]) := by
  cases v with
  | tuple xs =>
    have h : ∀ x ∈ xs, okT x = true := fun x hx => List.all_eq_true.mp (show xs.all okT = true from h) x hx
    simp [m_are_numbers, defn, tgIs, areNum]
    by_cases h1 : 1 ≤ xs.length
    · by_cases h2 : xs.length ≤ 12
      · have a1 : (1 : Int) ≤ xs.length := by omega
        have a2 : (xs.length : Int) ≤ 12 := by omega
        have a3 : xs.length < 100000 := by omega
        simp [a1, a2, a3, h1, h2]
        rw [lc_map (fun x => .bool (isIn 0 (n - 1) x)) xs fun x hx => by simp [lcStep, e_is_within (h x hx)]]
        simp [dAll_f, inAll]
      · have a2 : ¬ (xs.length : Int) ≤ 12 := by omega
        have a1 : (1 : Int) ≤ xs.length := by omega
        simp [a1, a2, h2]
    · have a1 : ¬ (1 : Int) ≤ xs.length := by omega
      simp [a1, h1]
  | dict kvs => rw [okT_dict h]; simp [m_are_numbers, defn, tgIs, areNum]
  | _ => simp [m_are_numbers, defn, tgIs, areNum]
/-! rising -/
@[simp] theorem e_are_rising (ns : List Int) (hl : ns.length < 100000) : m_are_rising [.d (tI ns)] = some (.d (.bool (rising ns)), [.d (tI ns)]) := by
  apply OV.eq
  have hz : (ns.zip (ns.drop 1)).length < 100000 := by simp; omega
  rw [m_are_rising, OV_defn]
  simp [cut_tI_from]
  refine ⟨by simpa using hz, ?_⟩
  rw [← List.drop_one]
  apply WLc.mapOf (fun p : Int × Int => PyData.tuple [.int p.1, .int p.2]) (fun p => .bool (decide (p.1 < p.2))) (fun p hp => by simp)
  rw [← rising_zip]
  simp [all_map]
/-- a lift of n shafts -/
def isLot (n : Int) : PyData → Bool
  | .tuple xs => inAll n xs && rising (xs.filterMap fun x => match x with
    | .int i => some i
    | _ => none)
  | _ => false
theorem lot_ints {n : Int} {xs : List PyData} (h : inAll n xs = true) : ∃ ns : List Int, xs = ns.map .int ∧ (∀ k ∈ ns, 0 ≤ k ∧ k ≤ n - 1) := ints_of h
theorem un_ints (ns : List Int) : ((ns.map PyData.int).filterMap fun x => match x with
    | .int i => some i
    | _ => none) = ns := by
  induction ns with
  | nil => rfl
  | cons n ns ih => simp [ih]
def short (m : Nat) : PyData → Bool
  | .tuple xs => decide (xs.length ≤ m)
  | _ => true
@[simp] theorem e_is_lot_of {v : PyData} {n : Int} (h : okTT v = true) (hs : short 1000 v = true) : m_is_lot_of [.d v, .d (.int n)] = some (.d (.bool (isLot n v)), [.d v, .d (.int n)]) := by
  cases v with
  | tuple xs =>
    have h : ∀ x ∈ xs, okT x = true := fun x hx => List.all_eq_true.mp (show xs.all okT = true from h) x hx
    have hs : xs.length ≤ 1000 := by simpa [short] using hs
    have h3 : xs.length < 100000 := by omega
    simp [m_is_lot_of, defn, tgIs, isLot, h3]
    rw [lc_map (fun x => .bool (isIn 0 (n - 1) x)) xs fun x hx => by simp [lcStep, e_is_within (h x hx)]]
    have e : xs.all (isIn 0 (n - 1)) = inAll n xs := rfl
    simp [dAll_f, e]
    cases hc : inAll n xs with
    | false => simp
    | true =>
      obtain ⟨ns, rfl, hn⟩ := lot_ints hc
      rw [un_ints]
      simp [e_are_rising ns (by simpa using h3)]
  | dict kvs => rw [okT_dict h]; simp [m_is_lot_of, defn, tgIs, isLot]
  | _ => simp [m_is_lot_of, defn, tgIs, isLot]
def areLifts (n : Int) : PyData → Bool
  | .tuple xs => decide (1 ≤ xs.length ∧ xs.length ≤ 12) && xs.all (isLot n)
  | _ => false
def okL : PyData → Bool
  | .tuple xs => xs.all fun x => okTT x && short 1000 x
  | v => okT v
@[simp] theorem e_are_lifts {v : PyData} {n : Int} (h : okL v = true) : m_are_lifts [.d v, .d (.int n)] = some (.d (.bool (areLifts n v)), [.d v, .d (.int n)]) := by
  cases v with
  | tuple xs =>
    have h : ∀ x ∈ xs, okTT x = true ∧ short 1000 x = true := fun x hx => by
      have := List.all_eq_true.mp (show (xs.all fun x => okTT x && short 1000 x) = true from h) x hx
      simpa using this
    simp [m_are_lifts, defn, tgIs, areLifts]
    by_cases h1 : 1 ≤ xs.length
    · by_cases h2 : xs.length ≤ 12
      · have a1 : (1 : Int) ≤ xs.length := by omega
        have a2 : (xs.length : Int) ≤ 12 := by omega
        have a3 : xs.length < 100000 := by omega
        simp [a1, a2, a3, h1, h2]
        rw [lc_map (fun x => .bool (isLot n x)) xs fun x hx => by simp [lcStep, e_is_lot_of (h x hx).1 (h x hx).2]]
        simp [dAll_f]
      · have a2 : ¬ (xs.length : Int) ≤ 12 := by omega
        have a1 : (1 : Int) ≤ xs.length := by omega
        simp [a1, a2, h2]
    · have a1 : ¬ (1 : Int) ≤ xs.length := by omega
      simp [a1, h1]
  | dict kvs => rw [okT_dict h]; simp [m_are_lifts, defn, tgIs, areLifts]
  | _ => simp [m_are_lifts, defn, tgIs, areLifts]
def isTup (n : Int) : PyData → Bool
  | .tuple xs => decide ((xs.length : Int) = n)
  | _ => false
@[simp] theorem e_is_tuple {v : PyData} {n : Int} (h : okT v = true) : m_is_tuple [.d v, .d (.int n)] = some (.d (.bool (isTup n v)), [.d v, .d (.int n)]) := by
  cases v with
  | dict kvs => rw [okT_dict h]; simp [m_is_tuple, defn, tgIs, isTup]
  | _ => simp [m_is_tuple, defn, tgIs, isTup]
/-- a loom told by its five parts -/
def loomOk (b c d e : PyData) : Bool := match b with
  | .int s => decide (1 ≤ s ∧ s ≤ 12) && areNum s c && areLifts s d && areNum (match d with
    | .tuple ds => (ds.length : Int)
    | _ => 0) e
  | _ => false
def isLoom : PyData → Bool
  | .tuple [.str a, b, c, d, e] => decide (a = "loom") && loomOk b c d e
  | _ => false
/-- what the predicates are asked of -/
structure Fit5 (a b c d e : PyData) : Prop where
  fb : okT b = true
  fc : okTT c = true
  fd : okL d = true
  fe : okTT e = true
  fa : okT a = true
  fr : ∃ t : Str, dRepr [a] = some (.str t) ∧ (t = "'loom'" ↔ a = .str "loom")
theorem okL_ok {v : PyData} (h : okL v = true) : okT v = true := by
  cases v with
  | tuple xs => rfl
  | _ => exact h
theorem lifts_tuple {n : Int} {d : PyData} (h : areLifts n d = true) : ∃ ds, d = .tuple ds ∧ 1 ≤ ds.length ∧ ds.length ≤ 12 ∧ ds.all (isLot n) = true := by
  cases d with
  | tuple ds => simp [areLifts] at h; exact ⟨ds, rfl, h.1.1, h.1.2, by simpa using h.2⟩
  | _ => cases h
theorem loomOk_no {b c d e : PyData} (h : isIn 1 12 b = false) : loomOk b c d e = false := by
  cases b with
  | int s =>
    simp only [isIn, Bool.and_eq_false_iff, decide_eq_false_iff_not] at h
    simp only [loomOk]
    have : ¬ (1 ≤ s ∧ s ≤ 12) := by omega
    simp [this]
  | _ => rfl
theorem loomOk_yes {s : Int} {c d e : PyData} (h1 : 1 ≤ s) (h2 : s ≤ 12) : loomOk (.int s) c d e = (areNum s c && (areLifts s d && areNum (match d with
    | .tuple ds => (ds.length : Int)
    | _ => 0) e)) := by
  simp [loomOk, h1, h2, Bool.and_assoc]
theorem e_is_loom_value5 {a b c d e : PyData} (f : Fit5 a b c d e) : m_is_loom_value [.d (.tuple [a, b, c, d, e])] = some (.d (.bool (isLoom (.tuple [a, b, c, d, e]))), [.d (.tuple [a, b, c, d, e])]) := by
  obtain ⟨fb, fc, fd, fe, fa, fr⟩ := f
  have ht : isTup 5 (.tuple [a, b, c, d, e]) = true := rfl
  cases a with
  | str x =>
    by_cases hx : x = "loom"
    · subst hx
      cases hi : isIn 1 12 b with
      | false => simp [m_is_loom_value, defn, ht, tgIs, isLoom, fb, hi, loomOk_no hi]
      | true =>
        obtain ⟨s, rfl, h1, h2⟩ := isIn_some hi
        cases h3 : areNum s c with
        | false => simp [m_is_loom_value, defn, ht, tgIs, isLoom, hi, loomOk_yes h1 h2, fc, fd, fe, h3]
        | true =>
          cases h4 : areLifts s d with
          | false => simp [m_is_loom_value, defn, ht, tgIs, isLoom, hi, loomOk_yes h1 h2, fc, fd, fe, h3, h4]
          | true =>
            obtain ⟨ds, rfl, _⟩ := lifts_tuple h4
            simp [m_is_loom_value, defn, ht, tgIs, isLoom, hi, loomOk_yes h1 h2, fc, fd, fe, h3, h4]
    · simp [m_is_loom_value, defn, ht, tgIs, isLoom, hx]
  | dict kvs => rw [okT_dict fa] at ht ⊢; simp [m_is_loom_value, defn, ht, tgIs, isLoom]
  | _ => simp [m_is_loom_value, defn, ht, tgIs, isLoom]
end PK88

set_option Elab.async false
set_option linter.all false
set_option maxRecDepth 100000
set_option maxHeartbeats 4000000
namespace PK88
open PySem DL
/-! drafts -/
theorem e_is_headed {c : PyData} {w : Str} : m_is_headed [.d (.tuple [.str w, c]), .d (.str w)] = some (.d (.bool true), [.d (.tuple [.str w, c]), .d (.str w)]) := by
  apply OV.eq
  have ht : isTup 2 (.tuple [.str w, c]) = true := rfl
  rw [m_is_headed, OV_defn]
  simp [ht, tgIs]
variable {rows : List (List Int)} {n : Nat}
theorem bits_all (v : IsDr rows n) {r : List Int} (h : r ∈ rows) : (r.map PyData.int).all (isIn 0 1) = true := by
  rw [List.all_eq_true]
  intro x hx
  obtain ⟨i, hi, rfl⟩ := List.mem_map.mp hx
  have := v.bit r h i hi
  simp [isIn]; omega
theorem e_are_rows_of (v : IsDr rows n) : m_are_rows_of [.d (tT rows), .d (.int 2)] = some (.d (.bool true), [.d (tT rows), .d (.int 2)]) := by
  apply OV.eq
  obtain ⟨r0, h0, hl0, hm0⟩ := v.at0
  have r1 := v.r1
  have r2 := v.r2
  have n1 := v.n1
  have n2 := v.n2
  have a1 : (1 : Int) ≤ rows.length := by omega
  have a2 : (rows.length : Int) ≤ 12 := by omega
  have a3 : rows.length < 100000 := by omega
  have a4 : (1 : Int) ≤ n := by omega
  have a5 : (n : Int) ≤ 12 := by omega
  rw [m_are_rows_of, OV_defn]
  simp [tgIs, a1, a2, a3]
  apply WLc.mapOf tI (fun _ => .bool true) (fun r hr => by simp [tgIs])
  simp [all_map, h0, hl0, a3, a4, a5]
  apply WLc.mapOf tI (fun _ => .bool false) (fun r hr => by simp [v.len r hr, h0, hl0])
  simp [any_map, a3]
  apply WLc.mapOf tI (fun r => .bool true) (fun r hr => by
    have := v.len r hr
    have : r.length < 100000 := by omega
    simp [this]
    apply WLc.mapOf PyData.int (fun x => .bool (isIn 0 1 (.int x))) (fun x hx => by simp)
    have : (r.all fun x => isIn 0 1 (.int x)) = true := by
      have := bits_all v hr
      rwa [List.all_map] at this
    simp [all_map, this])
  simp [all_map]
theorem e_is_draft_value (v : IsDr rows n) : m_is_draft_value [.d (drD rows)] = some (.d (.bool true), [.d (drD rows)]) := by
  apply OV.eq
  have h : m_is_headed [.d (drD rows), .d (.str "draft")] = some (.d (.bool true), [.d (drD rows), .d (.str "draft")]) := e_is_headed
  rw [m_is_draft_value, OV_defn]
  simp [h, e_are_rows_of v]
theorem e_want_draft (v : IsDr rows n) : m_want_draft [.d (drD rows)] = some (.d .none, [.d (drD rows)]) := by
  apply OV.eq
  rw [m_want_draft, OV_defn]
  simp [e_is_draft_value v]
theorem e_many_warps (v : IsDr rows n) : m_many_warps [.d (drD rows)] = some (.d (.int n), [.d (drD rows)]) := by
  apply OV.eq
  obtain ⟨r0, h0, hl0, hm0⟩ := v.at0
  rw [m_many_warps, OV_defn]
  simp [h0, hl0]
theorem e_columns_of (v : IsDr rows n) : m_columns_of [.d (drD rows)] = some (.own false ((colsOf n rows).map tI), [.d (drD rows)]) := by
  apply OV.eq
  have n2 := v.n2
  have r2 := v.r2
  have a2 : n ≤ 100000 := by omega
  have a3 : rows.length < 100000 := by omega
  have a4 : n < 100000 := by omega
  rw [m_columns_of, OV_defn]
  simp [e_many_warps v, rngI_nat n a2, a4]
  apply WLc.mapOf PyData.int (fun c => tI (rows.map fun r => nth r c)) (fun c hc => by
    have hc' := mem_upto.mp hc
    simp [a3]
    apply WLc.mapOf tI (fun r => .int (nth r c)) (fun r hr => by
      have := v.len r hr
      simp [atI_nth hc'.1 (show c < r.length by omega)])
    simp)
  simp [colsOf]
section
variable {α : Type} [DecidableEq α] {k : Nat} {e : α → PyData} {xs : List α}
theorem e_by_first_l (h : IsEnc k e) (hk : k ≤ 59) (hl : xs.length < 100000) : m_by_first [.d (.list (xs.map e))] = some (.own false ((firsts xs).map e), [.d (.list (xs.map e))]) := by
  apply OV.eq
  rw [m_by_first, OV_defn]
  simp
  apply WFor.invOf e (fun pre S => ∃ t, S = [.d (.list (xs.map e)), .own false ((firsts pre).map e), t]) ⟨_, rfl⟩
  · rintro pre a post S he ⟨t, rfl⟩
    have := firsts_len pre
    have hp : (firsts pre).length < 100000 := by rw [he] at hl; simp at hl; omega
    simp [(dNotIn_enc h hk a _).2, firsts_snoc, addA]
    by_cases hm : a ∈ firsts pre <;> simp [hm, hp]
  · rintro S ⟨t, rfl⟩
    simp
theorem e_by_first_t (h : IsEnc k e) (hk : k ≤ 59) (hl : xs.length < 100000) : m_by_first [.d (.tuple (xs.map e))] = some (.own false ((firsts xs).map e), [.d (.tuple (xs.map e))]) := by
  apply OV.eq
  rw [m_by_first, OV_defn]
  simp
  apply WFor.invOf e (fun pre S => ∃ t, S = [.d (.tuple (xs.map e)), .own false ((firsts pre).map e), t]) ⟨_, rfl⟩
  · rintro pre a post S he ⟨t, rfl⟩
    have := firsts_len pre
    have hp : (firsts pre).length < 100000 := by rw [he] at hl; simp at hl; omega
    simp [(dNotIn_enc h hk a _).2, firsts_snoc, addA]
    by_cases hm : a ∈ firsts pre <;> simp [hm, hp]
  · rintro S ⟨t, rfl⟩
    simp
def numbs (xs : List α) : List Int := xs.map fun x => (nIx x (firsts xs) : Nat)
theorem e_numbered_l (h : IsEnc k e) (hk : k ≤ 59) (hl : xs.length < 100000) : m_numbered [.d (.list (xs.map e))] = some (.d (tI (numbs xs)), [.d (.list (xs.map e))]) := by
  apply OV.eq
  rw [m_numbered, OV_defn]
  simp [e_by_first_l h hk hl, hl]
  apply WLc.mapOf e (fun x => .int (nIx x (firsts xs) : Nat)) (fun x hx => by
    simp [isList, dIndex_enc h hk (mem_firsts.mpr hx)])
  simp [numbs]
theorem e_numbered_t (h : IsEnc k e) (hk : k ≤ 59) (hl : xs.length < 100000) : m_numbered [.d (.tuple (xs.map e))] = some (.d (tI (numbs xs)), [.d (.tuple (xs.map e))]) := by
  apply OV.eq
  rw [m_numbered, OV_defn]
  simp [e_by_first_t h hk hl, hl]
  apply WLc.mapOf e (fun x => .int (nIx x (firsts xs) : Nat)) (fun x hx => by
    simp [isList, dIndex_enc h hk (mem_firsts.mpr hx)])
  simp [numbs]
end
/-! looms -/
def lmD (s : Int) (th : List Int) (ti : List (List Int)) (tr : List Int) : PyData := .tuple [.str "loom", .int s, tI th, tT ti, tI tr]
structure IsLm (s : Int) (th : List Int) (ti : List (List Int)) (tr : List Int) : Prop where
  s1 : 1 ≤ s
  s2 : s ≤ 12
  th1 : 1 ≤ th.length
  th2 : th.length ≤ 12
  thr : ∀ x ∈ th, 0 ≤ x ∧ x < s
  ti1 : 1 ≤ ti.length
  ti2 : ti.length ≤ 12
  tir : ∀ t ∈ ti, LotI s t
  tr1 : 1 ≤ tr.length
  tr2 : tr.length ≤ 12
  trr : ∀ x ∈ tr, 0 ≤ x ∧ x < ti.length
section
variable {s : Int} {th tr : List Int} {ti : List (List Int)}
@[simp] theorem ix_lm0 : dIx (lmD s th ti tr) (.int 0) = some (.str "loom") := by show L2.atI _ _ = _; simp
@[simp] theorem ix_lm1 : dIx (lmD s th ti tr) (.int 1) = some (.int s) := by show L2.atI _ _ = _; simp
@[simp] theorem ix_lm2 : dIx (lmD s th ti tr) (.int 2) = some (tI th) := by show L2.atI _ _ = _; simp
@[simp] theorem ix_lm3 : dIx (lmD s th ti tr) (.int 3) = some (tT ti) := by show L2.atI _ _ = _; simp
@[simp] theorem ix_lm4 : dIx (lmD s th ti tr) (.int 4) = some (tI tr) := by show L2.atI _ _ = _; simp
@[simp] theorem fold_lm : PyData.tuple [.str "loom", .int s, tI th, tT ti, tI tr] = lmD s th ti tr := rfl
theorem enc_lm : IsEnc 3 (fun p : Int × List Int × List (List Int) × List Int => lmD p.1 p.2.1 p.2.2.1 p.2.2.2) := ⟨fun p => by
    unfold lmD
    rw [fit_tuple]
    have : PyData.strOk "loom" = true := by decide +kernel
    have h1 := (enc_tI.mono (show 1 ≤ 2 by decide)).fit
    simp [fit_str, this, enc_tT.fit, fit_int, h1], fun p q => by
    obtain ⟨a, b, c, d⟩ := p
    obtain ⟨a', b', c', d'⟩ := q
    unfold lmD
    simp only [PyData.eqv, PyData.eqvAll, enc_tT.eqv, enc_tI.eqv, Bool.and_true]
    rw [Bool.eq_iff_iff]
    simp⟩
/-- what a loom weaves -/
def wovenOf (th : List Int) (ti : List (List Int)) (tr : List Int) : List (List Int) := tr.map fun t => th.map fun x => if x ∈ nth ti t then 1 else 0
theorem woven_dr (v : IsLm s th ti tr) : IsDr (wovenOf th ti tr) th.length := by
  refine ⟨by simpa [wovenOf] using v.tr1, by simpa [wovenOf] using v.tr2, v.th1, v.th2, fun r hr => ?_, fun r hr x hx => ?_⟩
  · obtain ⟨t, _, rfl⟩ := List.mem_map.mp hr
    simp
  · obtain ⟨t, _, rfl⟩ := List.mem_map.mp hr
    obtain ⟨y, _, rfl⟩ := List.mem_map.mp hx
    split <;> omega
theorem e_plan_of (v : IsLm s th ti tr) : m_plan_of [.d (lmD s th ti tr)] = some (.d (tT (tr.map fun t => nth ti t)), [.d (lmD s th ti tr)]) := by
  apply OV.eq
  have := v.tr2
  have a1 : tr.length < 100000 := by omega
  rw [m_plan_of, OV_defn]
  simp [a1]
  apply WLc.mapOf PyData.int (fun t => tI (nth ti t)) (fun t ht => by
    have := v.trr t ht
    simp [atI_nth this.1 this.2])
  simp
theorem e_woven_by (v : IsLm s th ti tr) : m_woven_by [.d (lmD s th ti tr)] = some (.d (drD (wovenOf th ti tr)), [.d (lmD s th ti tr)]) := by
  apply OV.eq
  have := v.tr2
  have := v.th2
  have a1 : tr.length < 100000 := by omega
  have a2 : th.length < 100000 := by omega
  rw [m_woven_by, OV_defn]
  simp [a1, e_plan_of v]
  rw [← List.map_map]
  apply WLc.mapOf tI (fun l => tI (th.map fun x => if x ∈ l then 1 else 0)) (fun l hl => by
    simp [a2]
    apply WLc.mapOf PyData.int (fun x => .int (if x ∈ l then 1 else 0)) (fun x hx => by
      by_cases h : x ∈ l <;> simp [h])
    simp)
  simp [wovenOf, Function.comp_def]
/-- the told loom of a draft: its columns cs, its rows -/
def toldS (rows : List (List Int)) (n : Nat) : Int := (firsts (colsOf n rows)).length
def toldF (rows : List (List Int)) (n : Nat) : List Int := (firsts (colsOf n rows)).map fun c => (nIx c (colsOf n rows) : Nat)
def tieOf (F r : List Int) : List Int := (F.zipIdx.filter fun p => decide (nth r p.1 = 1)).map fun p => ((p.2 : Nat) : Int)
def toldT (rows : List (List Int)) (n : Nat) : List (List Int) := (firsts rows).map (tieOf (toldF rows n))
def toldD (rows : List (List Int)) (n : Nat) : PyData := lmD (toldS rows n) (numbs (colsOf n rows)) (toldT rows n) (numbs rows)
theorem told_is (v : IsDr rows n) : IsLm (toldS rows n) (numbs (colsOf n rows)) (toldT rows n) (numbs rows) := by
  have r1 := v.r1
  have r2 := v.r2
  have n1 := v.n1
  have n2 := v.n2
  have f1 := firsts_len (colsOf n rows)
  have f2 := firsts_ne (xs := colsOf n rows) (by simpa using n1)
  have f3 := firsts_len rows
  have f4 := firsts_ne r1
  simp only [colsOf_len] at f1
  refine ⟨by unfold toldS; omega, by unfold toldS; omega, by simpa [numbs] using n1, by simpa [numbs] using n2, fun x hx => ?_, by simpa [toldT] using f4, by simp [toldT]; omega, fun t ht => ?_, by simpa [numbs] using r1, by simpa [numbs] using r2, fun x hx => ?_⟩
  · obtain ⟨c, hc, rfl⟩ := List.mem_map.mp hx
    have := nIx_lt (mem_firsts.mpr hc)
    unfold toldS; omega
  · obtain ⟨r, hr, rfl⟩ := List.mem_map.mp ht
    unfold tieOf
    refine ⟨?_, fun k hk => ?_⟩
    · rw [List.pairwise_map]
      refine List.Pairwise.filter _ ?_
      rw [List.zipIdx_eq_zip_range']
      generalize toldF rows n = l
      have key : ∀ (l : List Int) (s : Nat), (l.zip (List.range' s l.length)).Pairwise fun a b => (a.2 : Int) < (b.2 : Int) := by
        intro l
        induction l with
        | nil => intro s; simp
        | cons a l ih =>
          intro s
          rw [List.length_cons, List.range'_succ, List.zip_cons_cons, List.pairwise_cons]
          refine ⟨fun b hb => ?_, ih (s + 1)⟩
          have := (List.of_mem_zip hb).2
          have := List.mem_range'_1.mp this
          simp; omega
      exact key l 0
    · obtain ⟨p, hp, rfl⟩ := List.mem_map.mp hk
      have hp := (List.mem_filter.mp hp).1
      obtain ⟨a, i⟩ := p
      have := List.mem_zipIdx hp
      simp [toldF] at this
      unfold toldS
      simp; omega
  · obtain ⟨r, hr, rfl⟩ := List.mem_map.mp hx
    have := nIx_lt (mem_firsts.mpr hr)
    simp [toldT]; omega
theorem e_told_loom (v : IsDr rows n) : m_told_loom [.d (drD rows)] = some (.d (toldD rows n), [.d (drD rows)]) := by
  apply OV.eq
  have n2 := v.n2
  have r2 := v.r2
  have f1 := firsts_len (colsOf n rows)
  have f3 := firsts_len rows
  simp only [colsOf_len] at f1
  have a1 : rows.length < 100000 := by omega
  have a2 : (colsOf n rows).length < 100000 := by simp; omega
  have a3 : (firsts (colsOf n rows)).length < 100000 := by omega
  rw [m_told_loom, OV_defn]
  simp [e_columns_of v, e_by_first_l enc_tI (by decide) a2, a3]
  apply WLc.mapOf tI (fun c => .int (nIx c (colsOf n rows) : Nat)) (fun c hc => by
    simp [isList, dIndex_enc enc_tI (by decide) (mem_firsts.mp hc)])
  simp [e_by_first_l enc_tI (by decide) a1]
  have hF : ((firsts (colsOf n rows)).map fun c => PyData.int (nIx c (colsOf n rows) : Nat)) = (toldF rows n).map .int := by simp [toldF]
  rw [hF]
  have hT : (toldF rows n).length = (firsts (colsOf n rows)).length := by simp [toldF]
  apply WFor.invOf tI (fun pre S => ∃ t, S = [.d (drD rows), .d (.list ((colsOf n rows).map tI)), .d (.list (rows.map tI)), .d (.list ((toldF rows n).map .int)), .own false ((pre.map (tieOf (toldF rows n))).map tI), t, .un, .un, .un]) ⟨_, rfl⟩
  · rintro pre r post S he ⟨t, rfl⟩
    have hr : r ∈ rows := mem_firsts.mp (by rw [he]; simp)
    have hp : pre.length < 100000 := by
      have := congrArg List.length he
      simp at this; omega
    have l0 : (toldF rows n).zipIdx.length < 100000 := by simp [hT]; omega
    have e0 : enumI [.list ((toldF rows n).map .int)] = some ((toldF rows n).zipIdx.map fun p => .tuple [.int (p.2 : Nat), .int p.1]) := by
      show some (enumD 0 _) = _; rw [enumD_map0]
    simp [e0, hT, a3]
    apply WLc.fmapOf (fun p : Int × Nat => PyData.tuple [.int (p.2 : Nat), .int p.1]) (fun p => if nth r p.1 = 1 then some (.int (p.2 : Nat)) else none) (fun p hp => by
      obtain ⟨a, i⟩ := p
      have h1 := List.mem_zipIdx hp
      have ha : a ∈ toldF rows n := by
        have := h1.2.2
        simp at this
        rw [this]; exact List.getElem_mem _
      have hb : 0 ≤ a ∧ a < n := by
        obtain ⟨c, hc, rfl⟩ := List.mem_map.mp ha
        have := nIx_lt (mem_firsts.mp hc)
        simp at this
        omega
      have := v.len r hr
      simp [dTup, atI_nth hb.1 (show a < r.length by omega)])
    have hfm : (toldF rows n).zipIdx.filterMap (fun p => if nth r p.1 = 1 then some (PyData.int (p.2 : Nat)) else none) = (tieOf (toldF rows n) r).map .int := by
      unfold tieOf
      generalize (toldF rows n).zipIdx = l
      induction l with
      | nil => rfl
      | cons p l ih => by_cases h : nth r p.1 = 1 <;> simp [h, ih]
    rw [hfm]
    simp [hp]
  · rintro S ⟨t, rfl⟩
    simp [e_numbered_l enc_tI (by decide) a1, e_numbered_l enc_tI (by decide) a2]
    simp [toldD, toldS, hT, toldT]
theorem e_loom_of (v : IsDr rows n) : m_loom_of [.d (drD rows)] = some (.d (toldD rows n), [.d (drD rows)]) := by
  apply OV.eq
  rw [m_loom_of, OV_defn]
  simp [e_want_draft v, e_told_loom v]
end
end PK88

set_option Elab.async false
set_option linter.all false
set_option maxRecDepth 100000
set_option maxHeartbeats 4000000
namespace PK88
open PySem DL
/-! draws -/
theorem perm_erase {left : List Int} {j : Nat} (h : j < left.length) : ([left[j]] ++ left.eraseIdx j).Perm left := by
  induction left generalizing j with
  | nil => simp at h
  | cons x l ih =>
    cases j with
    | zero => simp
    | succ j =>
      have h' : j < l.length := by simpa using h
      have := ih h'
      simp only [List.getElem_cons_succ, List.eraseIdx_cons_succ]
      exact (List.Perm.swap x l[j] (l.eraseIdx j)).trans (List.Perm.cons x this)
theorem ixN_0 : L2.ixN 2 0 = some 0 := by decide
theorem ixN_1 : L2.ixN 2 1 = some 1 := by decide
theorem cdiv {i n : Int} (h1 : 0 < n) (h2 : n < 1000000) : L2.CDiv i n := ⟨h1, by omega⟩
theorem w_draw {a b n : Int} (h1 : 0 < n) (h2 : n < 1000) {Q : SD × List SD → Prop} (k : ∀ r a' b', 0 ≤ r → r < n → Q (.d (.int r), [P a' b', .d (.int n)])) : OV (m__law_draw [P a b, .d (.int n)]) Q := by
  have c1 : L2.CDiv a n := cdiv h1 (by omega)
  have c2 : L2.CMul b 39373 := .inr ⟨by decide, by decide⟩
  have hb1 : 0 ≤ (b * 39373 + 1123) % 2147483587 := Int.emod_nonneg _ (by decide)
  have hb2 : (b * 39373 + 1123) % 2147483587 < 2147483587 := Int.emod_lt_of_pos _ (by decide)
  have c3 : L2.CMul ((b * 39373 + 1123) % 2147483587) ((b * 39373 + 1123) % 2147483587) := .inl ⟨by omega, by omega⟩
  have c4 : ∀ t, L2.CDiv (t % 2147483563) 19 := fun t => cdiv (by decide) (by decide)
  rw [m__law_draw, OV_defn]
  by_cases ha : 0 < a
  · simp [ha, c1, ixN_0]
    exact k _ _ _ (Int.emod_nonneg _ (by omega)) (Int.emod_lt_of_pos _ h1)
  · simp [ha, c2, ixN_1, c3, c4, h1]
    exact k _ _ _ (Int.emod_nonneg _ (by omega)) (Int.emod_lt_of_pos _ h1)
theorem w_pick {a b : Int} {xs : List PyData} (h : 1 ≤ xs.length) (h2 : xs.length < 1000) {Q : SD × List SD → Prop} (k : ∀ x a' b', x ∈ xs → Q (.d x, [P a' b', .d (.list xs)])) : OV (m__law_pick [P a b, .d (.list xs)]) Q := by
  rw [m__law_pick, OV_defn]
  simp
  apply w_draw (by omega) (by omega)
  intro r a' b' h3 h4
  have h5 : r.toNat < xs.length := by omega
  simp [atI_of h3, List.getElem?_eq_getElem h5]
  exact k _ _ _ (List.getElem_mem h5)
theorem w_mixed {a b : Int} {ns : List Int} (h2 : ns.length < 1000) {Q : SD × List SD → Prop} (k : ∀ (ms : List Int) a' b', ms.Perm ns → Q (.own false (ms.map .int), [P a' b', .d (.list (ns.map .int))])) : OV (m__law_mixed [P a b, .d (.list (ns.map .int))]) Q := by
  rw [m__law_mixed, OV_defn]
  simp
  apply WWh.invA (fun j S => ∃ a b left found, S = [P a b, .d (.list (ns.map .int)), .own false (left.map .int), .own false (found.map .int)] ∧ (found ++ left).Perm ns ∧ left.length = j) ns.length ⟨a, b, ns, [], rfl, by simp, rfl⟩ (by omega)
  rintro j S ⟨a, b, left, found, rfl, hp, hj⟩
  have hl := hp.length_eq
  rw [List.length_append] at hl
  by_cases hn : left = []
  · subst hn
    simp
    exact k _ _ _ (by simpa using hp)
  · have hpos : 0 < left.length := List.length_pos_iff.mpr hn
    simp [hn]
    apply w_draw (by omega) (by omega)
    intro r a' b' h3 h4
    have h5 : r.toNat < left.length := by omega
    simp [popAt_map PyData.int h3 h4 (by omega)]
    refine ⟨by omega, left.length - 1, by omega, a', b', left.eraseIdx r.toNat, found ++ [left[r.toNat]], by simp, ?_, by rw [List.length_eraseIdx, if_pos h5]⟩
    refine List.Perm.trans ?_ hp
    rw [List.append_assoc]
    exact List.Perm.append_left found (perm_erase h5)
/-! looms by the law's hand -/
theorem w_loom {a b m : Int} (h1 : 1 ≤ m) (h2 : m ≤ 10) {Q : SD × List SD → Prop} (k : ∀ s th ti tr a' b', IsLm s th ti tr → s ≤ m → th.length ≤ m + 2 → ti.length ≤ m → tr.length ≤ m + 2 → Q (.d (lmD s th ti tr), [P a' b', .d (.int m)])) : OV (m__law_loom [P a b, .d (.int m)]) Q := by
  rw [m__law_loom, OV_defn]
  simp
  apply w_draw (by omega) (by omega)
  intro s a b s1 s2
  have e1 : ((1 + s).toNat : Int) = 1 + s := by omega
  simp
  apply w_draw (by omega) (by omega)
  intro t a b t1 t2
  simp
  apply w_draw (by omega) (by omega)
  intro w a b w1 w2
  simp [rngI_int (show 0 ≤ 1 + w by omega) (by omega)]
  refine ⟨by omega, ?_⟩
  apply WLc.potE PyData.int (fun x => 0 ≤ x ∧ x < 1 + s) (fun x hx a b => by
    simp
    apply w_draw (by omega) (by omega)
    intro r a' b' h3 h4
    simp
    exact ⟨h3, h4⟩)
  intro th a b l1 l2
  simp at l1
  simp [rngI_int (show 0 ≤ 1 + t by omega) (by omega)]
  refine ⟨by omega, ?_⟩
  apply WLc.potE tI (LotI (1 + s)) (fun x hx a b => by
    simp [rngI_int (show 0 ≤ 1 + s by omega) (by omega)]
    refine ⟨by omega, ?_⟩
    apply WLc.potS PyData.int (fun x hx a b => by
      simp
      apply w_draw (by omega) (by omega)
      intro r a' b' h3 h4
      by_cases hr : r = 0
      · simp [hr]
      · simp [hr])
    intro ys a b hy
    simp
    exact ⟨ys, rfl, by have := sub_upto hy; rwa [e1] at this⟩)
  intro ti a b l3 l4
  simp at l3
  simp
  apply w_draw (by omega) (by omega)
  intro v a b v1 v2
  simp [rngI_int (show 0 ≤ 1 + v by omega) (by omega)]
  refine ⟨by omega, ?_⟩
  apply WLc.potE PyData.int (fun x => 0 ≤ x ∧ x < 1 + t) (fun x hx a b => by
    simp
    apply w_draw (by omega) (by omega)
    intro r a' b' h3 h4
    simp
    exact ⟨h3, h4⟩)
  intro tr a b l5 l6
  simp at l5
  simp
  refine k _ _ _ _ _ _ ⟨by omega, by omega, by omega, by omega, l2, by omega, by omega, fun t ht => ?_, by omega, by omega, fun x hx => ?_⟩ (by omega) (by omega) (by omega) (by omega)
  · exact l4 t ht
  · have := l6 x hx
    omega
end PK88

set_option Elab.async false
set_option linter.all false
set_option maxRecDepth 100000
set_option maxHeartbeats 4000000
namespace PK88
open PySem DL
theorem e_law_woven {s : Int} {th tr : List Int} {ti : List (List Int)} (v : IsLm s th ti tr) : m__law_woven [.d (lmD s th ti tr)] = some (.d (drD (wovenOf th ti tr)), [.d (lmD s th ti tr)]) := by
  apply OV.eq
  have := v.tr2
  have := v.th2
  have a2 : th.length < 100000 := by omega
  rw [m__law_woven, OV_defn]
  simp
  apply WFor.invOf PyData.int (fun pre S => ∃ t, S = [.d (lmD s th ti tr), .own false ((pre.map fun t => th.map fun x => if x ∈ nth ti t then (1 : Int) else 0).map tI), t, .un]) ⟨_, rfl⟩
  · rintro pre a post S he ⟨t, rfl⟩
    have hp : pre.length < 100000 := by have := congrArg List.length he; simp at this; omega
    have ha := v.trr a (by rw [he]; simp)
    simp [a2]
    apply WLc.mapOf PyData.int (fun x => .int (if x ∈ nth ti a then (1 : Int) else 0)) (fun x hx => by
      simp [atI_nth ha.1 ha.2])
    simp [hp]
  · rintro S ⟨t, rfl⟩
    simp [wovenOf, Function.comp_def]
variable {rows : List (List Int)} {n : Nat}
/-! lines -/
theorem e_lines_warp (v : IsDr rows n) : m_lines_of [.d (drD rows), .d (.str "warp")] = some (.d (.list ((colsOf n rows).map tI)), [.d (drD rows), .d (.str "warp")]) := by
  apply OV.eq
  rw [m_lines_of, OV_defn]
  simp [e_columns_of v]
theorem e_lines_weft (v : IsDr rows n) : m_lines_of [.d (drD rows), .d (.str "weft")] = some (.d (.list (rows.map tI)), [.d (drD rows), .d (.str "weft")]) := by
  apply OV.eq
  rw [m_lines_of, OV_defn]
  have : (Str.ofString "weft" = Str.ofString "warp") = False := by decide
  simp [this]
theorem e_many_warp (v : IsDr rows n) : m_many_unlike [.d (drD rows), .d (.str "warp")] = some (.d (.int (firsts (colsOf n rows)).length), [.d (drD rows), .d (.str "warp")]) := by
  apply OV.eq
  have n2 := v.n2
  rw [m_many_unlike, OV_defn]
  simp [e_lines_warp v, e_by_first_l enc_tI (by decide) (show (colsOf n rows).length < 100000 by simp; omega)]
theorem e_many_weft (v : IsDr rows n) : m_many_unlike [.d (drD rows), .d (.str "weft")] = some (.d (.int (firsts rows).length), [.d (drD rows), .d (.str "weft")]) := by
  apply OV.eq
  have n2 := v.r2
  rw [m_many_unlike, OV_defn]
  simp [e_lines_weft v, e_by_first_l enc_tI (by decide) (show rows.length < 100000 by omega)]
theorem e_fewest_shafts (v : IsDr rows n) : m_fewest_shafts [.d (drD rows)] = some (.d (.int (firsts (colsOf n rows)).length), [.d (drD rows)]) := by
  apply OV.eq
  rw [m_fewest_shafts, OV_defn]
  simp [e_want_draft v, e_many_warp v]
theorem e_fewest_treadles (v : IsDr rows n) : m_fewest_treadles [.d (drD rows)] = some (.d (.int (firsts rows).length), [.d (drD rows)]) := by
  apply OV.eq
  rw [m_fewest_treadles, OV_defn]
  simp [e_want_draft v, e_many_weft v]
theorem e_want_most {i : Int} (h1 : 1 ≤ i) (h2 : i ≤ 12) : m_want_most [.d (.int i)] = some (.d .none, [.d (.int i)]) := by
  apply OV.eq
  have : isIn 1 12 (.int i) = true := by simp [isIn, h1, h2]
  rw [m_want_most, OV_defn]
  simp [this]
theorem e_want_numbers (v : IsDr rows n) {i j : Int} (h1 : 1 ≤ i) (h2 : i ≤ 12) (h3 : 1 ≤ j) (h4 : j ≤ 12) : m_want_numbers [.d (drD rows), .d (.int i), .d (.int j)] = some (.d .none, [.d (drD rows), .d (.int i), .d (.int j)]) := by
  apply OV.eq
  rw [m_want_numbers, OV_defn]
  simp [e_want_draft v, e_want_most h1 h2, e_want_most h3 h4]
/-! lines of one length -/
structure LN (L : List (List Int)) (m : Nat) : Prop where
  l1 : 1 ≤ L.length
  l2 : L.length ≤ 12
  m1 : 1 ≤ m
  m2 : m ≤ 12
  len : ∀ r ∈ L, r.length = m
theorem LN.of (v : IsDr rows n) : LN rows n := ⟨v.r1, v.r2, v.n1, v.n2, v.len⟩
variable {L : List (List Int)} {m : Nat}
/-- where a line stands -/
def likeOf (L : List (List Int)) (r : List Int) : List Int := (L.zipIdx.filter fun p => decide (p.1 = r)).map fun p => ((p.2 : Nat) : Int)
theorem e_like_lists (hl : L.length < 100000) : m_like_lists [.d (.list (L.map tI))] = some (.own false ((firsts L).map fun r => .list ((likeOf L r).map .int)), [.d (.list (L.map tI))]) := by
  apply OV.eq
  have := firsts_len L
  have e0 : enumI [.list (L.map tI)] = some (L.zipIdx.map fun p => .tuple [.int (p.2 : Nat), tI p.1]) := by
    show some (enumD 0 _) = _; rw [enumD_map0]
  rw [m_like_lists, OV_defn]
  simp [e_by_first_l enc_tI (by decide) hl]
  refine ⟨by omega, ?_⟩
  apply WLc.mapOf tI (fun r => .list ((likeOf L r).map .int)) (fun r hr => by
    simp [e0, hl]
    apply WLc.fmapOf (fun p : List Int × Nat => PyData.tuple [.int (p.2 : Nat), tI p.1]) (fun p => if p.1 = r then some (.int (p.2 : Nat)) else none) (fun p hp => by
      by_cases h : p.1 = r <;> simp [h])
    have hfm : L.zipIdx.filterMap (fun p => if p.1 = r then some (PyData.int (p.2 : Nat)) else none) = (likeOf L r).map .int := by
      unfold likeOf
      generalize L.zipIdx = l
      induction l with
      | nil => rfl
      | cons p l ih => by_cases h : p.1 = r <;> simp [h, ih]
    rw [hfm]
    simp)
  simp
theorem likeOf_head {r : List Int} (h : r ∈ L) : ∃ t, likeOf L r = (nIx r L : Int) :: t := by
  unfold likeOf
  have key : ∀ (L : List (List Int)) (k : Nat), r ∈ L → ∃ t, ((L.zipIdx k).filter fun p => decide (p.1 = r)).map (fun p => ((p.2 : Nat) : Int)) = ((nIx r L + k : Nat) : Int) :: t := by
    intro L
    induction L with
    | nil => intro k h; simp at h
    | cons x L ih =>
      intro k h
      rw [List.zipIdx_cons]
      by_cases hx : x = r
      · simp [hx, nIx]
      · have : r ∈ L := by rcases List.mem_cons.mp h with q | q; exact absurd q.symm hx; exact q
        obtain ⟨t, ht⟩ := ih (k + 1) this
        refine ⟨t, ?_⟩
        simp only [List.filter_cons, hx, decide_false, Bool.false_eq_true, if_false, ht, nIx]
        congr 1
        omega
  obtain ⟨t, ht⟩ := key L 0 h
  exact ⟨t, by simpa using ht⟩
theorem enc_bool (k : Nat) : IsEnc k PyData.bool := ⟨fit_bool k, fun a b => by cases a <;> cases b <;> simp [PyData.eqv]⟩
/-- the first place at which two lines are unlike -/
def unl (a b : List Int) : Int := (nIx false ((a.zip b).map fun p => decide (p.1 = p.2)) : Nat)
theorem unl_spec {a b : List Int} (hl : a.length = b.length) (hn : a ≠ b) : false ∈ (a.zip b).map (fun p => decide (p.1 = p.2)) := by
  induction a generalizing b with
  | nil => cases b with
    | nil => exact absurd rfl hn
    | cons _ _ => simp at hl
  | cons x a ih => cases b with
    | nil => simp at hl
    | cons y b =>
      by_cases h : x = y
      · have : a ≠ b := fun q => hn (by rw [h, q])
        have := ih (by simpa using hl) this
        rw [List.zip_cons_cons, List.map_cons]
        exact List.mem_cons_of_mem _ this
      · rw [List.zip_cons_cons, List.map_cons]
        simp [h]
theorem e_first_unlike (v : LN L m) {i j : Int} (hi : 0 ≤ i ∧ i < L.length) (hj : 0 ≤ j ∧ j < L.length) (hn : nth L i ≠ nth L j) : m_first_unlike [.d (.list (L.map tI)), .d (.int i), .d (.int j)] = some (.d (.int (unl (nth L i) (nth L j))), [.d (.list (L.map tI)), .d (.int i), .d (.int j)]) := by
  apply OV.eq
  have h1 := v.len _ (nth_mem hi.1 hi.2)
  have h2 := v.len _ (nth_mem hj.1 hj.2)
  have m2 := v.m2
  have hs := unl_spec (h1.trans h2.symm) hn
  have hd := dIndex_enc (enc_bool 0) (by decide) hs
  rw [m_first_unlike, OV_defn]
  simp [atI_nth hi.1 hi.2, atI_nth hj.1 hj.2]
  refine ⟨by omega, ?_⟩
  apply WLc.mapOf (fun p : Int × Int => PyData.tuple [.int p.1, .int p.2]) (fun p => .bool (decide (p.1 = p.2))) (fun p hp => by simp)
  rw [List.map_map] at hd
  simp [isList, unl]
  exact ⟨_, hd, by simp⟩
/-- all pairs -/
def prs : List Int → List (Int × Int)
  | [] => []
  | x :: r => r.map (fun y => (x, y)) ++ prs r
def prD (p : Int × Int) : PyData := .tuple [.int p.1, .int p.2]
theorem enc_prD : IsEnc 1 prD := (enc_int 0).pair (enc_int 0)
theorem prs_len : ∀ ns : List Int, (prs ns).length ≤ ns.length * ns.length
  | [] => by simp [prs]
  | x :: r => by
    have := prs_len r
    simp only [prs, List.length_append, List.length_map, List.length_cons]
    have e : (r.length + 1) * (r.length + 1) = r.length * r.length + 2 * r.length + 1 := by rw [Nat.add_mul, Nat.mul_add]; omega
    omega
theorem e_pairs_of {ns : List Int} (hl : ns.length ≤ 100) : m_pairs_of [.d (.list (ns.map .int))] = some (.own false ((prs ns).map prD), [.d (.list (ns.map .int))]) := by
  apply OV.eq
  have e0 : enumI [.list (ns.map .int)] = some (ns.zipIdx.map fun p => .tuple [.int (p.2 : Nat), .int p.1]) := by
    show some (enumD 0 _) = _; rw [enumD_map0]
  rw [m_pairs_of, OV_defn]
  simp [e0]
  apply WFor.invOfA (fun p : Int × Nat => PyData.tuple [.int (p.2 : Nat), .int p.1]) (fun pre S => ∃ t u qs, S = [.d (.list (ns.map .int)), .own false (qs.map prD), t, u, .un] ∧ qs ++ prs (ns.drop pre.length) = prs ns) ⟨_, _, [], rfl, by simp⟩
  · rintro pre a post S he ⟨t, u, qs, rfl, hq⟩
    obtain ⟨x, i⟩ := a
    obtain ⟨rfl, hsp⟩ := zipIdx_split he
    have hlen := congrArg List.length hsp
    simp at hlen
    have hd : ns.drop pre.length = x :: post.map Prod.fst := by rw [hsp]; simp
    have hd1 : ns.drop (pre.length + 1) = post.map Prod.fst := by
      have e : pre.length + 1 = (pre.map Prod.fst ++ [x]).length := by simp
      have e2 : ns = (pre.map Prod.fst ++ [x]) ++ post.map Prod.fst := by rw [hsp]; simp
      rw [e, e2]
      exact List.drop_left
    have c1 : cutD (ns.map PyData.int) (some ((pre.length : Int) + 1)) none = (post.map Prod.fst).map .int := by
      rw [cutI_from (by omega), ← List.map_drop]
      have : ((pre.length : Int) + 1).toNat = pre.length + 1 := by omega
      rw [this, hd1]
    rw [hd, prs] at hq
    have hb := prs_len ns
    have hb2 : ns.length * ns.length ≤ 100 * 100 := Nat.mul_le_mul hl hl
    have hqs : qs.length + post.length ≤ 10000 := by
      have := congrArg List.length hq
      simp at this
      omega
    simp [c1]
    refine ⟨by omega, ?_⟩
    rw [← List.map_map]
    refine WLc.mapOf PyData.int (fun y => prD (x, y)) (fun y hy => ?_) ?_
    · simp [prD]
    have hm : mExtend (qs.map prD) [.list ((post.map Prod.fst).map fun y => prD (x, y))] = some (.none, (qs ++ (post.map Prod.fst).map (fun y => (x, y))).map prD) := by
      show (if _ then _ else _) = _
      rw [if_pos (by simpa using by omega)]
      simp
    simp [-List.map_map, hm]
    refine ⟨_, _, qs ++ (post.map Prod.fst).map (fun y => (x, y)), by rw [List.map_append], ?_⟩
    have : (pre ++ [(x, pre.length)]).length = pre.length + 1 := by simp
    rw [this, hd1, List.append_assoc]
    exact hq
  · rintro S ⟨t, u, qs, rfl, hq⟩
    have : ns.drop ns.zipIdx.length = [] := by simp
    rw [this] at hq
    have hq : qs = prs ns := by simpa [prs] using hq
    simp [hq]
/-! spreads -/
theorem prs_sub {a b : Int} : ∀ {ns : List Int}, (a, b) ∈ prs ns → [a, b].Sublist ns
  | [], h => by simp [prs] at h
  | x :: r, h => by
    rw [prs, List.mem_append] at h
    rcases h with h | h
    · obtain ⟨y, hy, e⟩ := List.mem_map.mp h
      cases e
      exact (List.singleton_sublist.mpr hy).cons₂ _
    · exact (prs_sub h).cons x
def someOf (L : List (List Int)) (k : Nat) : List Int := ((firsts L).map fun r => ((nIx r L : Nat) : Int)).take k
theorem nth_nIx {r : List Int} (h : r ∈ L) : nth L (nIx r L : Nat) = r := by
  have h1 := nIx_get h
  have h2 := nIx_lt h
  simp [List.getD_eq_getElem?_getD, h1]
theorem someOf_mem {k : Nat} {x : Int} (h : x ∈ someOf L k) : 0 ≤ x ∧ x < L.length := by
  obtain ⟨r, hr, rfl⟩ := List.mem_map.mp (List.mem_of_mem_take h)
  have := nIx_lt (mem_firsts.mp hr)
  omega
theorem someOf_len (k : Nat) : (someOf L k).length ≤ L.length := by
  have := firsts_len L
  simp [someOf]; omega
theorem someOf_ne {k : Nat} {a b : Int} (h : (a, b) ∈ prs (someOf L k)) : (0 ≤ a ∧ a < L.length) ∧ (0 ≤ b ∧ b < L.length) ∧ nth L a ≠ nth L b := by
  have hs := prs_sub h
  have ha := someOf_mem (hs.subset (show a ∈ [a, b] by simp))
  have hb := someOf_mem (hs.subset (show b ∈ [a, b] by simp))
  have hs2 : [a, b].Sublist ((firsts L).map fun r => ((nIx r L : Nat) : Int)) := hs.trans (List.take_sublist _ _)
  obtain ⟨l', h1, h2⟩ := List.sublist_map_iff.mp hs2
  match l', h2, h1 with
  | [r1, r2], h2, h1 =>
    simp only [List.map_cons, List.map_nil, List.cons.injEq, and_true] at h2
    obtain ⟨rfl, rfl⟩ := h2
    have hd := List.Nodup.sublist h1 (nodup_firsts L)
    have m1 := mem_firsts.mp (h1.subset (show r1 ∈ [r1, r2] by simp))
    have m2 := mem_firsts.mp (h1.subset (show r2 ∈ [r1, r2] by simp))
    refine ⟨ha, hb, ?_⟩
    rw [nth_nIx m1, nth_nIx m2]
    intro q
    subst q
    simp at hd
  | [], h2, _ => simp at h2
  | [_], h2, _ => simp at h2
  | _ :: _ :: _ :: _, h2, _ => simp at h2
def trD (p : Int × Int × Int) : PyData := .tuple [.int p.1, .int p.2.1, .int p.2.2]
def placesOf (L : List (List Int)) (k : Nat) : List (Int × Int × Int) := (prs (someOf L k)).map fun p => (p.1, p.2, unl (nth L p.1) (nth L p.2))
def spD (kind : Str) (ns : List Int) (ps : List (Int × Int × Int)) : PyData := .tuple [.str kind, tI ns, .tuple (ps.map trD)]
theorem e_spread_of {kind : Str} {rows : List (List Int)} {k : Int} (hk : 0 ≤ k) (v : LN L m) (hL : m_lines_of [.d (drD rows), .d (.str kind)] = some (.d (.list (L.map tI)), [.d (drD rows), .d (.str kind)])) :
    m_spread_of [.d (drD rows), .d (.str kind), .d (.int k)] = some (.d (spD kind (someOf L (k + 1).toNat) (placesOf L (k + 1).toNat)), [.d (drD rows), .d (.str kind), .d (.int k)]) := by
  apply OV.eq
  have l2 := v.l2
  have f1 := firsts_len L
  have s1 := someOf_len (L := L) (k + 1).toNat
  have p1 := prs_len (someOf L (k + 1).toNat)
  have p2 : (someOf L (k + 1).toNat).length * (someOf L (k + 1).toNat).length ≤ 12 * 12 := Nat.mul_le_mul (by omega) (by omega)
  rw [m_spread_of, OV_defn]
  simp [hL, e_like_lists (show L.length < 100000 by omega)]
  refine ⟨by omega, ?_⟩
  apply WLc.mapOf (fun r => .list ((likeOf L r).map .int)) (fun r => .int (nIx r L : Nat)) (fun r hr => by
    obtain ⟨t, ht⟩ := likeOf_head (mem_firsts.mp hr)
    simp [ht])
  have c1 : cutD ((firsts L).map fun r => PyData.int (nIx r L : Nat)) none (some (k + 1)) = (someOf L (k + 1).toNat).map .int := by
    rw [cutI_to (by omega)]
    unfold someOf
    rw [List.map_take, List.map_map]; rfl
  simp [c1, e_pairs_of (show (someOf L (k + 1).toNat).length ≤ 100 by omega)]
  refine ⟨by omega, ?_⟩
  apply WLc.mapOf prD (fun p => trD (p.1, p.2, unl (nth L p.1) (nth L p.2))) (fun p hp => by
    obtain ⟨a, b⟩ := p
    obtain ⟨ha, hb, hn⟩ := someOf_ne hp
    simp [prD, e_first_unlike v ha hb hn, trD])
  simp [spD, placesOf]
def spreadOf (rows : List (List Int)) (n : Nat) (i j : Int) : PyData :=
  if (firsts (colsOf n rows)).length > i then spD "warp" (someOf (colsOf n rows) (i + 1).toNat) (placesOf (colsOf n rows) (i + 1).toNat)
  else if (firsts rows).length > j then spD "weft" (someOf rows (j + 1).toNat) (placesOf rows (j + 1).toNat) else .none
theorem e_spread (v : IsDr rows n) {i j : Int} (h1 : 1 ≤ i) (h2 : i ≤ 12) (h3 : 1 ≤ j) (h4 : j ≤ 12) : m_spread [.d (drD rows), .d (.int i), .d (.int j)] = some (.d (spreadOf rows n i j), [.d (drD rows), .d (.int i), .d (.int j)]) := by
  apply OV.eq
  have s1 := e_spread_of (k := i) (by omega) (LN.of v.cols) (e_lines_warp v)
  have s2 := e_spread_of (k := j) (by omega) (LN.of v) (e_lines_weft v)
  rw [m_spread, OV_defn]
  simp [e_want_numbers v h1 h2 h3 h4, e_many_warp v]
  unfold spreadOf
  by_cases c1 : ((firsts (colsOf n rows)).length : Int) > i
  · simp [c1, s1]
  · by_cases c2 : ((firsts rows).length : Int) > j
    · simp [c1, c2, e_many_weft v, s2]
    · simp [c1, c2, e_many_weft v]
end PK88

set_option Elab.async false
set_option linter.all false
set_option maxRecDepth 100000
set_option maxHeartbeats 4000000
namespace PK88
open PySem DL
variable {L : List (List Int)} {m : Nat}
/-! the parts of a place -/
def okA : PyData → Bool
  | .none => true
  | .bool b => b
  | .int i => decide (-1 ≤ i) && decide (i ≤ 99)
  | .str s => decide (s = "0")
  | _ => false
def okQ : PyData → Bool
  | .none => true
  | .tuple [a, b] => okA a && okA b
  | .tuple [a, b, c] => okA a && okA b && okA c
  | _ => false
theorem okA_T {a : PyData} (h : okA a = true) : okT a = true := by
  cases a <;> simp_all [okA, okT]
theorem okA_fit {a : PyData} (n : Nat) (h : okA a = true) : fitN n a = true := by
  cases a with
  | str s =>
    have e : s = "0" := by simpa [okA] using h
    subst e
    have : PyData.strOk "0" = true := by decide +kernel
    simp [fitN, PyData.canLay0, PyData.depth, this]
  | _ => simp_all [okA] <;> simp [fitN, PyData.canLay0, PyData.depth]
def isI (i : Int) : PyData → Bool
  | .int j => decide (j = i)
  | _ => false
@[simp] theorem ix_pr0 (p : Int × Int) : dIx (prD p) (.int 0) = some (.int p.1) := by show L2.atI _ _ = _; simp
@[simp] theorem ix_pr1 (p : Int × Int) : dIx (prD p) (.int 1) = some (.int p.2) := by show L2.atI _ _ = _; simp
def cell (L : List (List Int)) (i c : Int) : Int := nth (nth L i) c
def cellNe (L : List (List Int)) (i j : Int) : PyData → Bool
  | .int c => decide (cell L i c ≠ cell L j c)
  | _ => false
def placeOk (L : List (List Int)) (m : Nat) (i j : Int) : PyData → Bool
  | .tuple [a, b, c] => isI i a && (isI j b && (isIn 0 (m - 1) c && cellNe L i j c))
  | _ => false
theorem isI_in {i n : Int} {a : PyData} (h : 0 ≤ i ∧ i < n) (ha : isIn 0 (n - 1) a = false) : isI i a = false := by
  cases a with
  | int k => simp [isIn, isI] at *; omega
  | _ => rfl
theorem e_is_place_of (v : LN L m) {i j : Int} (hi : 0 ≤ i ∧ i < L.length) (hj : 0 ≤ j ∧ j < L.length) {q : PyData} (hq : okQ q = true) :
    m_is_place_of [.d (.list (L.map tI)), .d q, .d (prD (i, j))] = some (.d (.bool (placeOk L m i j q)), [.d (.list (L.map tI)), .d q, .d (prD (i, j))]) := by
  apply OV.eq
  have l1 := v.l1
  have l0 : (nth L 0).length = m := v.len _ (nth_mem (by decide) (by omega))
  have l0' : L2.atI L 0 = some (nth L 0) := atI_nth (by decide) (by omega)
  have hli := v.len _ (nth_mem hi.1 hi.2)
  have hlj := v.len _ (nth_mem hj.1 hj.2)
  rw [m_is_place_of, OV_defn]
  match q, hq with
  | .none, _ => simp [isTup, placeOk]
  | .tuple [a, b], _ => simp [isTup, placeOk]
  | .tuple [a, b, c], hq =>
    simp only [okQ, Bool.and_eq_true] at hq
    obtain ⟨⟨ha, hb⟩, hc⟩ := hq
    have ta := okA_T ha
    have tb := okA_T hb
    have tc := okA_T hc
    have k1 : cutD [a, b, c] none (some 2) = [a, b] := by rw [cutI_to (by decide)]; rfl
    simp [isTup, l0', l0, tc]
    by_cases hci : isIn 0 (m - 1) c = true
    · obtain ⟨cc, rfl, c1, c2⟩ := isIn_some hci
      simp [hci, k1, ta, tb]
      by_cases hab : isIn 0 (L.length - 1) a = true ∧ isIn 0 (L.length - 1) b = true
      · obtain ⟨aa, rfl, a1, a2⟩ := isIn_some hab.1
        obtain ⟨bb, rfl, b1, b2⟩ := isIn_some hab.2
        have hne : dNe (.tuple [.int aa, .int bb]) (prD (i, j)) = some (.bool (!decide ((aa, bb) = (i, j)))) := dNe_enc enc_prD (by decide) (aa, bb) (i, j)
        simp [hab.1, hab.2, dAll, dBools, k1, hne]
        by_cases he : aa = i ∧ bb = j
        · obtain ⟨rfl, rfl⟩ := he
          simp [atI_nth hi.1 hi.2, atI_nth hj.1 hj.2, atI_nth c1 (show cc < (nth L aa).length by omega), atI_nth c1 (show cc < (nth L bb).length by omega), placeOk, isI, hci, cell, cellNe]
          by_cases h : nth (nth L aa) cc = nth (nth L bb) cc <;> simp [h]
        · have : placeOk L m i j (.tuple [.int aa, .int bb, .int cc]) = false := by
            simp only [placeOk, isI, ← Bool.and_assoc, Bool.and_eq_false_iff, decide_eq_false_iff_not]
            by_cases h : aa = i
            · exact .inl (.inl (.inr fun q => he ⟨h, q⟩))
            · exact .inl (.inl (.inl h))
          simp [he, this]
      · have hb : (isIn 0 (L.length - 1) a && isIn 0 (L.length - 1) b) = false := by
          rw [Bool.eq_false_iff]; simpa using hab
        have hp : placeOk L m i j (.tuple [a, b, .int cc]) = false := by
          rw [Bool.and_eq_false_iff] at hb
          simp only [placeOk]
          rcases hb with h | h
          · rw [isI_in hi h]; rfl
          · rw [isI_in hj h]; simp
        simp [dAll, dBools, hb, hp]
    · have hp : placeOk L m i j (.tuple [a, b, c]) = false := by
        rw [Bool.not_eq_true] at hci
        simp only [placeOk, hci]; simp
      rw [Bool.not_eq_true] at hci
      simp [hci, hp]
/-! pairs and places -/
def zipOk (L : List (List Int)) (m : Nat) : List PyData → List (Int × Int) → Bool
  | q :: qs, p :: ps => placeOk L m p.1 p.2 q && zipOk L m qs ps
  | _, _ => true
/-- the ints of data -/
def pints (xs : List PyData) : List Int := xs.filterMap fun x => match x with
  | .int i => some i
  | _ => none
@[simp] theorem pints_map (ns : List Int) : pints (ns.map .int) = ns := un_ints ns
/-- a spread's two last parts -/
def spreadOk (L : List (List Int)) (m : Nat) (k : Int) (some : PyData) (places : PyData) : Bool := isLot L.length some && (match some, places with
  | .tuple xs, .tuple qs => decide ((xs.length : Int) > k) && decide (qs.length = (prs (pints xs)).length) && zipOk L m qs (prs (pints xs))
  | _, _ => false)
def spOk (rows : List (List Int)) (n : Nat) (i j : Int) : PyData → Bool
  | .tuple [.str k, s, p] => if k = "warp" then spreadOk (colsOf n rows) rows.length i s p else if k = "weft" then spreadOk rows n j s p else false
  | _ => false
/-- which values are asked of -/
def okB : PyData → Bool
  | .bool b => b
  | .int i => decide (0 ≤ i) && decide (i ≤ 11)
  | _ => false
def okS : PyData → Bool
  | .none => true
  | .list xs => xs.all okB && decide (xs.length ≤ 30)
  | .tuple xs => xs.all okB && decide (xs.length ≤ 30)
  | _ => false
def okP : PyData → Bool
  | .list qs => qs.all okQ && decide (qs.length ≤ 200)
  | .tuple qs => qs.all okQ && decide (qs.length ≤ 200)
  | _ => false
def okK : PyData → Bool
  | .str s => decide (s = "warp") || decide (s = "weft") || decide (s = "Warp")
  | .none => true
  | .int i => decide (i = 0)
  | _ => false
def okV : PyData → Bool
  | .none => true
  | .int i => decide (i = 0)
  | .str s => decide (s = "spread")
  | .dict kvs => kvs.isEmpty
  | .list xs => match xs with
    | [k, s, p] => okK k && okS s && okP p
    | _ => false
  | .tuple xs => match xs with
    | [] => true
    | [k, s] => okK k && okS s
    | [k, s, p] => okK k && okS s && okP p
    | _ => false
  | _ => false
variable {rows : List (List Int)} {n : Nat}
theorem okB_T {x : PyData} (h : okB x = true) : okT x = true := by cases x <;> simp_all [okB, okT]
theorem okS_TT {s : PyData} (h : okS s = true) : okTT s = true ∧ short 1000 s = true := by
  cases s with
  | tuple xs =>
    simp only [okS, Bool.and_eq_true, decide_eq_true_eq, List.all_eq_true] at h
    refine ⟨?_, by simp [short]; omega⟩
    simp only [okTT, okTs, List.all_eq_true]
    exact fun x hx => okB_T (h.1 x hx)
  | _ => simp_all [okS, okTT, okT, short]
theorem warp_ne : ("weft" : Str) ≠ "warp" := by decide
theorem zip_all : ∀ (qs : List PyData) (ps : List (Int × Int)), ((qs.zip ps).all fun x => placeOk L m x.2.1 x.2.2 x.1) = zipOk L m qs ps
  | [], _ => by simp [zipOk]
  | _ :: _, [] => by simp [zipOk]
  | q :: qs, p :: ps => by simp [zipOk, zip_all qs ps]
theorem prs_mem {ns : List Int} {p : Int × Int} (h : p ∈ prs ns) : p.1 ∈ ns ∧ p.2 ∈ ns := by
  have := prs_sub (a := p.1) (b := p.2) h
  exact ⟨this.subset (by simp), this.subset (by simp)⟩
theorem lot_pints {n : Int} {xs : List PyData} (h : isLot n (.tuple xs) = true) : ∃ ns : List Int, xs = ns.map .int ∧ LotI n ns := by
  simp only [isLot, Bool.and_eq_true] at h
  obtain ⟨ns, rfl, hn⟩ := lot_ints h.1
  have h2 := h.2
  rw [un_ints] at h2
  exact ⟨ns, rfl, (rising_pw ns).mp h2, fun k hk => by have := hn k hk; omega⟩
theorem e_spread_tail (v : LN L m) {kind : Str} {i j k : Int} {s p : PyData} (hk : kind = "warp" ∧ k = i ∨ kind = "weft" ∧ k = j) (hs : okS s = true) (hp : okP p = true)
    (w : m_want_numbers [.d (drD rows), .d (.int i), .d (.int j)] = some (.d .none, [.d (drD rows), .d (.int i), .d (.int j)])) (hL : m_lines_of [.d (drD rows), .d (.str kind)] = some (.d (.list (L.map tI)), [.d (drD rows), .d (.str kind)])) :
    m_is_spread [.d (drD rows), .d (.int i), .d (.int j), .d (.tuple [.str kind, s, p])] = some (.d (.bool (spreadOk L m k s p)), [.d (drD rows), .d (.int i), .d (.int j), .d (.tuple [.str kind, s, p])]) := by
  apply OV.eq
  obtain ⟨hsT, hsS⟩ := okS_TT hs
  have hin : dNotIn (.str kind) (.tuple [.str "warp", .str "weft"]) = some (.bool false) := by
    rcases hk with ⟨rfl, _⟩ | ⟨rfl, _⟩
    · exact (in_strs (a := "warp") (ss := ["warp", "weft"]) (by decide +kernel) (by decide +kernel)).2
    · exact (in_strs (a := "weft") (ss := ["warp", "weft"]) (by decide +kernel) (by decide +kernel)).2
  have l2 := v.l2
  rw [m_is_spread, OV_defn]
  rcases hk with ⟨rfl, rfl⟩ | ⟨rfl, rfl⟩
  all_goals
    simp [w, isTup, tgIs, hin, hL, warp_ne, hsT, hsS]
    cases hlot : isLot L.length s with
    | false => simp [spreadOk, hlot]
    | true =>
      cases s with
      | tuple xs =>
        obtain ⟨ns, rfl, hn⟩ := lot_pints hlot
        have hlen := lot_lenZ hn (by omega)
        have hlen2 : ns.length ≤ 100 := by omega
        have hgt' : decide ((ns.length : Int) > k) = !decide ((ns.length : Int) ≤ k) := by
          by_cases h : (ns.length : Int) ≤ k <;> simp [h] <;> omega
        by_cases hle : (ns.length : Int) ≤ k
        · have : spreadOk L m k (tI ns) p = false := by
            have : ¬ k < (ns.length : Int) := by omega
            cases p <;> simp [spreadOk, tI, this, -fold_tI]
          simp [hle, this]
        · simp [hle, e_pairs_of hlen2]
          cases p with
          | tuple qs =>
            simp only [okP, Bool.and_eq_true, decide_eq_true_eq] at hp
            have hsp : spreadOk L m k (tI ns) (.tuple qs) = (decide (qs.length = (prs ns).length) && zipOk L m qs (prs ns)) := by
              have hlot' : isLot L.length (tI ns) = true := hlot
              show (isLot L.length (tI ns) && (decide (((ns.map PyData.int).length : Int) > k) && decide (qs.length = (prs (pints (ns.map .int))).length) && zipOk L m qs (prs (pints (ns.map .int))))) = _
              rw [pints_map, hlot', List.length_map, hgt']
              simp [hle]
            by_cases hq : qs.length = (prs ns).length
            · have hz : zipI [.tuple qs, .list ((prs ns).map prD)] = some ((qs.zip (prs ns)).map fun x => .tuple [x.1, prD x.2]) := by
                show some (zipD qs ((prs ns).map prD)) = _
                have := zipD_map (fun x : PyData => x) prD qs (prs ns)
                rw [List.map_id'] at this
                rw [this]
              have hz2 : (qs.zip (prs ns)).length < 100000 := by simp; omega
              simp [isTup, hq, hz]
              refine ⟨by omega, ?_⟩
              apply WLc.mapOf (fun x : PyData × (Int × Int) => PyData.tuple [x.1, prD x.2]) (fun x => .bool (placeOk L m x.2.1 x.2.2 x.1)) (fun x hx => by
                obtain ⟨q, a, b⟩ := x
                have h1 := (List.of_mem_zip hx).1
                have h2 := prs_mem (List.of_mem_zip hx).2
                have ha := hn.2 _ h2.1
                have hb := hn.2 _ h2.2
                simp [e_is_place_of v ha hb (List.all_eq_true.mp hp.1 q h1)])
              simp [all_map, hsp, hq, zip_all]
            · have hq' : ¬ ((qs.length : Int) = (prs ns).length) := by omega
              simp [isTup, hq', hsp, hq]
          | list qs => simp [isTup, spreadOk]
          | _ => simp [okP] at hp
      | _ => simp [isLot] at hlot
theorem okP_T {p : PyData} (h : okP p = true) : okT p = true := by cases p <;> simp_all [okP, okT]
theorem e_is_spread (v : IsDr rows n) {i j : Int} (h1 : 1 ≤ i) (h2 : i ≤ 12) (h3 : 1 ≤ j) (h4 : j ≤ 12) {x : PyData} (hx : okV x = true) :
    m_is_spread [.d (drD rows), .d (.int i), .d (.int j), .d x] = some (.d (.bool (spOk rows n i j x)), [.d (drD rows), .d (.int i), .d (.int j), .d x]) := by
  have w := e_want_numbers v h1 h2 h3 h4
  have no : ∀ x : PyData, okT x = true → isTup 3 x = false → spOk rows n i j x = false → m_is_spread [.d (drD rows), .d (.int i), .d (.int j), .d x] = some (.d (.bool (spOk rows n i j x)), [.d (drD rows), .d (.int i), .d (.int j), .d x]) := by
    intro x a b c
    apply OV.eq
    rw [m_is_spread, OV_defn]
    simp [w, a, b, c]
  have nk : ∀ k s p : PyData, (∀ z, k ≠ .str z) → okT k = true → m_is_spread [.d (drD rows), .d (.int i), .d (.int j), .d (.tuple [k, s, p])] = some (.d (.bool (spOk rows n i j (.tuple [k, s, p]))), [.d (drD rows), .d (.int i), .d (.int j), .d (.tuple [k, s, p])]) := by
    intro k s p hk hT
    apply OV.eq
    rw [m_is_spread, OV_defn]
    cases k with
    | str z => exact absurd rfl (hk z)
    | dict kvs => rw [okT_dict hT]; simp [w, isTup, tgIs, spOk]
    | _ => simp [w, isTup, tgIs, spOk]
  cases x with
  | tuple xs =>
    match xs, hx with
    | [], _ => exact no _ rfl rfl (by simp [spOk])
    | [k, s], _ => exact no _ rfl rfl (by simp [spOk])
    | [k, s, p], hx =>
      simp only [okV, Bool.and_eq_true] at hx
      obtain ⟨⟨hk, hs⟩, hp⟩ := hx
      cases k with
      | str z =>
        by_cases z1 : z = "warp"
        · subst z1
          have := e_spread_tail (LN.of v.cols) (kind := "warp") (k := i) (.inl ⟨rfl, rfl⟩) hs hp w (e_lines_warp v)
          simpa [spOk] using this
        · by_cases z2 : z = "weft"
          · subst z2
            have := e_spread_tail (LN.of v) (kind := "weft") (k := j) (.inr ⟨rfl, rfl⟩) hs hp w (e_lines_weft v)
            simpa [spOk, warp_ne] using this
          · have z3 : z = "Warp" := by simpa [okK, z1, z2] using hk
            subst z3
            have hin : dNotIn (.str "Warp") (.tuple [.str "warp", .str "weft"]) = some (.bool true) := (in_strs (a := "Warp") (ss := ["warp", "weft"]) (by decide +kernel) (by decide +kernel)).2
            apply OV.eq
            rw [m_is_spread, OV_defn]
            simp [w, isTup, tgIs, hin, spOk, z1, z2]
      | none => exact nk _ _ _ (by simp) rfl
      | int z => exact nk _ _ _ (by simp) rfl
      | _ => simp [okK] at hk
  | dict kvs =>
    simp only [okV, List.isEmpty_iff] at hx
    subst hx
    exact no _ rfl rfl (by simp [spOk])
  | list xs => exact no _ rfl rfl (by simp [spOk])
  | none => exact no _ rfl rfl (by simp [spOk])
  | int z => exact no _ rfl rfl (by simp [spOk])
  | str z => exact no _ rfl rfl (by simp [spOk])
  | bool b => simp [okV] at hx
end PK88

set_option Elab.async false
set_option linter.all false
set_option maxRecDepth 100000
set_option maxHeartbeats 4000000
namespace PK88
open PySem DL
/-! texts of pairs -/
def cl (s : Str) : List Nat := s.cps.toList
theorem cl_app (a b : Str) : cl (a ++ b) = cl a ++ cl b := by
  show (a.cps ++ b.cps).toList = _
  simp [cl]
theorem cl_inj {a b : Str} (h : cl a = cl b) : a = b := by
  cases a; cases b
  simp only [cl] at h
  congr 1
  exact Array.toList_inj.mp h
def allA : List PyData := [.none, .bool true, .str "0"] ++ (List.range 101).map fun (i : Nat) => .int ((i : Int) - 1)
theorem okA_mem {a : PyData} (h : okA a = true) : a ∈ allA := by
  unfold allA
  cases a with
  | none => simp
  | bool b => simp only [okA] at h; subst h; simp
  | str s =>
    have : s = "0" := by simpa [okA] using h
    subst this; simp
  | int i =>
    simp only [okA, Bool.and_eq_true, decide_eq_true_eq] at h
    rw [List.mem_append]
    refine .inr (List.mem_map.mpr ⟨(i + 1).toNat, List.mem_range.mpr (by omega), ?_⟩)
    congr 1
    omega
  | _ => simp [okA] at h
theorem texts_eq : (allA.all fun a => (List.range 12).all fun (i : Nat) => decide (a.shown = (PyData.int (i : Int)).shown) == isI i a) = true := by decide +kernel
theorem texts_no : (allA.all fun a => !(cl a.shown).contains 44) = true := by decide +kernel
theorem text_eq {a : PyData} (h : okA a = true) {i : Int} (hi : 0 ≤ i ∧ i < 12) : (a.shown = (PyData.int i).shown) ↔ isI i a = true := by
  have h1 := List.all_eq_true.mp texts_eq a (okA_mem h)
  have h2 := List.all_eq_true.mp h1 i.toNat (List.mem_range.mpr (by omega))
  have e : ((i.toNat : Nat) : Int) = i := by omega
  rw [e] at h2
  rw [← eq_of_beq h2]
  simp
theorem text_no {a : PyData} (h : okA a = true) : 44 ∉ cl a.shown := by
  have h1 := List.all_eq_true.mp texts_no a (okA_mem h)
  simpa using h1
theorem split_at {c : Nat} {x x' : List Nat} : ∀ {y y' : List Nat}, c ∉ x → c ∉ x' → x ++ c :: y = x' ++ c :: y' → x = x' ∧ y = y' := by
  induction x generalizing x' with
  | nil =>
    intro y y' _ h2 e
    cases x' with
    | nil => simpa using e
    | cons b x' => simp at e; exact absurd (by rw [e.1]; simp) h2
  | cons a x ih =>
    intro y y' h1 h2 e
    cases x' with
    | nil => simp at e; exact absurd (by rw [e.1]; simp) h1
    | cons b x' =>
      simp only [List.cons_append, List.cons.injEq] at e
      obtain ⟨h3, h4⟩ := ih (fun q => h1 (List.mem_cons_of_mem _ q)) (fun q => h2 (List.mem_cons_of_mem _ q)) e.2
      exact ⟨by rw [e.1, h3], h4⟩
theorem cl_pair (a b : PyData) : cl (PyData.tuple [a, b]).shown = cl "(" ++ (cl a.shown ++ 44 :: (32 :: (cl b.shown ++ cl ")"))) := by
  have : (PyData.tuple [a, b]).shown = tupleText [a.shown, b.shown] := by simp only [PyData.shown, PyData.shownAll]
  rw [this]
  show cl (("(" : Str) ++ (a.shown ++ (", " : Str) ++ b.shown) ++ (")" : Str)) = _
  have e : cl ", " = [44, 32] := by decide +kernel
  simp only [cl_app, e]
  simp
theorem pair_text {a b : PyData} (ha : okA a = true) (hb : okA b = true) {i j : Int} (hi : 0 ≤ i ∧ i < 12) (hj : 0 ≤ j ∧ j < 12) : ((PyData.tuple [a, b]).shown = (prD (i, j)).shown) ↔ (isI i a && isI j b) = true := by
  have oi : okA (.int i) = true := by simp [okA]; omega
  have oj : okA (.int j) = true := by simp [okA]; omega
  rw [Bool.and_eq_true, ← text_eq ha hi, ← text_eq hb hj]
  constructor
  · intro h
    have h := congrArg cl h
    rw [show prD (i, j) = .tuple [.int i, .int j] from rfl, cl_pair, cl_pair] at h
    have h := List.append_cancel_left h
    obtain ⟨h1, h2⟩ := split_at (text_no ha) (text_no oi) h
    simp only [List.cons.injEq, true_and] at h2
    exact ⟨cl_inj h1, cl_inj (List.append_cancel_right h2)⟩
  · rintro ⟨h1, h2⟩
    apply cl_inj
    rw [show prD (i, j) = .tuple [.int i, .int j] from rfl, cl_pair, cl_pair, h1, h2]
theorem okA_R {a : PyData} (h : okA a = true) : okR a = true ∧ wt a ≤ 21 ∧ a.depth = 0 := by
  cases a with
  | str s =>
    have : s = "0" := by simpa [okA] using h
    subst this
    have : (reprText "0").length ≤ 21 := by decide +kernel
    exact ⟨by simp [okR], by simpa [wt] using this, by simp [PyData.depth]⟩
  | int i => simp only [okA, Bool.and_eq_true, decide_eq_true_eq] at h; exact ⟨by simp only [okR, decide_eq_true_eq]; omega, by simp [wt], by simp [PyData.depth]⟩
  | _ => simp_all [okA] <;> simp [okR, wt, PyData.depth]
theorem repr_pair {a b : PyData} (ha : okA a = true) (hb : okA b = true) : dRepr [.tuple [a, b]] = some (.str (PyData.tuple [a, b]).shown) := by
  obtain ⟨a1, a2, a3⟩ := okA_R ha
  obtain ⟨b1, b2, b3⟩ := okA_R hb
  show (if _ then _ else _) = _
  rw [if_pos (reprOk_of (by simp [okR, okRL, a1, b1]) (by simp only [wt, wtL]; omega) (by simp only [PyData.depth, PyData.depthAll, a3, b3]; omega))]
theorem repr_warp : dRepr [.str "warp"] = some (.str "'warp'") := by
  show (if reprOk (.str "warp") = true then some (PyData.str (PyData.str "warp").shown) else none) = _
  rw [if_pos (by decide +kernel)]
  exact congrArg (fun x => some (PyData.str x)) (by decide +kernel)
theorem repr_weft : dRepr [.str "weft"] = some (.str "'weft'") := by
  show (if reprOk (.str "weft") = true then some (PyData.str (PyData.str "weft").shown) else none) = _
  rw [if_pos (by decide +kernel)]
  exact congrArg (fun x => some (PyData.str x)) (by decide +kernel)
def isK : PyData → Bool
  | .str s => decide (s = "warp") || decide (s = "weft")
  | _ => false
theorem repr_k {k : PyData} (h : okK k = true) : ∃ t : Str, dRepr [k] = some (.str t) ∧ dNotIn (.str t) (.tuple [.str "'warp'", .str "'weft'"]) = some (.bool (!isK k)) := by
  have key : ∀ k : PyData, ∀ t : Str, reprOk k = true → k.shown = t → PyData.strOk t = true → dRepr [k] = some (.str t) ∧ dNotIn (.str t) (.tuple [.str "'warp'", .str "'weft'"]) = some (.bool (!decide (t ∈ [("'warp'" : Str), "'weft'"]))) := by
    intro k t h1 h2 h3
    refine ⟨?_, (in_strs (a := t) (ss := ["'warp'", "'weft'"]) h3 (by decide +kernel)).2⟩
    show (if _ then _ else _) = _
    rw [if_pos h1, h2]
  cases k with
  | str s =>
    simp only [okK, Bool.or_eq_true, decide_eq_true_eq] at h
    rcases h with (rfl | rfl) | rfl
    · obtain ⟨h1, h2⟩ := key (.str "warp") "'warp'" (by decide +kernel) (by decide +kernel) (by decide +kernel)
      exact ⟨_, h1, by rw [h2]; exact congrArg (fun b => some (PyData.bool (!b))) (by decide +kernel)⟩
    · obtain ⟨h1, h2⟩ := key (.str "weft") "'weft'" (by decide +kernel) (by decide +kernel) (by decide +kernel)
      exact ⟨_, h1, by rw [h2]; exact congrArg (fun b => some (PyData.bool (!b))) (by decide +kernel)⟩
    · obtain ⟨h1, h2⟩ := key (.str "Warp") "'Warp'" (by decide +kernel) (by decide +kernel) (by decide +kernel)
      exact ⟨_, h1, by rw [h2]; exact congrArg (fun b => some (PyData.bool (!b))) (by decide +kernel)⟩
  | none =>
    obtain ⟨h1, h2⟩ := key .none "None" (by decide +kernel) (by decide +kernel) (by decide +kernel)
    exact ⟨_, h1, by rw [h2]; exact congrArg (fun b => some (PyData.bool (!b))) (by decide +kernel)⟩
  | int i =>
    have : i = 0 := by simpa [okK] using h
    subst this
    obtain ⟨h1, h2⟩ := key (.int 0) "0" (by decide +kernel) (by decide +kernel) (by decide +kernel)
    exact ⟨_, h1, by rw [h2]; exact congrArg (fun b => some (PyData.bool (!b))) (by decide +kernel)⟩
  | _ => simp [okK] at h
variable {L : List (List Int)} {m : Nat} {rows : List (List Int)} {n : Nat}
theorem e_law_is_whole {v : PyData} {n : Int} (h : okT v = true) : m__law_is_whole [.d v, .d (.int n)] = some (.d (.bool (isIn 0 (n - 1) v)), [.d v, .d (.int n)]) := by
  apply OV.eq
  rw [m__law_is_whole, OV_defn]
  cases v with
  | int i =>
    simp [tgIs, isIn]
    by_cases h0 : 0 ≤ i
    · simp [h0]; omega
    · simp [h0]
  | dict kvs => rw [okT_dict h]; simp [tgIs, isIn]
  | _ => simp [tgIs, isIn]
/-- x before the greater ones -/
def gp (ns : List Int) (x : Int) : List (Int × Int) := (ns.filter fun y => decide (x < y)).map fun y => (x, y)
theorem gp_len (ns : List Int) (x : Int) : (gp ns x).length ≤ ns.length := by
  unfold gp
  rw [List.length_map]
  exact List.length_filter_le _ _
theorem prs_rising : ∀ {ns : List Int}, ns.Pairwise (· < ·) → ns.flatMap (gp ns) = prs ns
  | [], _ => rfl
  | x :: r, h => by
    have h' := List.pairwise_cons.mp h
    have ih := prs_rising h'.2
    rw [List.flatMap_cons, prs]
    congr 1
    · unfold gp
      congr 1
      rw [List.filter_cons_of_neg (by simp)]
      exact List.filter_eq_self.mpr fun y hy => by simpa using h'.1 y hy
    · rw [← ih]
      have key : ∀ r' : List Int, (∀ y ∈ r', x < y) → r'.flatMap (gp (x :: r)) = r'.flatMap (gp r) := by
        intro r'
        induction r' with
        | nil => intro _; rfl
        | cons z r' ih2 =>
          intro hz
          rw [List.flatMap_cons, List.flatMap_cons, ih2 fun y hy => hz y (List.mem_cons_of_mem _ hy)]
          have := hz z (by simp)
          congr 1
          unfold gp
          rw [List.filter_cons_of_neg (by simp; omega)]
      exact key r h'.1
/-- the places are tuples of three -/
def tri : PyData → Bool
  | .tuple [_, _, _] => true
  | _ => false
theorem zipOk_tri : ∀ {qs : List PyData} {ps : List (Int × Int)}, qs.length = ps.length → qs.all tri = false → zipOk L m qs ps = false
  | [], _, _, h => by simp at h
  | q :: qs, [], h, _ => by simp at h
  | q :: qs, p :: ps, h, h2 => by
    rw [List.all_cons, Bool.and_eq_false_iff] at h2
    rw [zipOk]
    rcases h2 with h2 | h2
    · have : placeOk L m p.1 p.2 q = false := by
        unfold placeOk
        split
        · simp [tri] at h2
        · rfl
      rw [this]; rfl
    · rw [zipOk_tri (by simpa using h) h2]; simp
theorem zipOk_false {p : Int × Int} {q : PyData} : ∀ {qs : List PyData} {ps : List (Int × Int)}, (p, q) ∈ ps.zip qs → placeOk L m p.1 p.2 q = false → zipOk L m qs ps = false
  | [], ps, h, _ => by simp at h
  | _ :: _, [], h, _ => by simp at h
  | x :: qs, y :: ps, h, h2 => by
    rw [List.zip_cons_cons] at h
    rw [zipOk]
    rcases List.mem_cons.mp h with h | h
    · cases h; rw [h2]; rfl
    · rw [zipOk_false h h2]; simp
theorem zipOk_true : ∀ {qs : List PyData} {ps : List (Int × Int)}, (ps.zip qs).all (fun x => placeOk L m x.1.1 x.1.2 x.2) = true → zipOk L m qs ps = true
  | [], ps, _ => by simp [zipOk]
  | _ :: _, [], _ => by simp [zipOk]
  | x :: qs, y :: ps, h => by
    rw [List.zip_cons_cons, List.all_cons, Bool.and_eq_true] at h
    rw [zipOk, h.1, zipOk_true h.2]; rfl
theorem e_law_warp (v : LN L m) {i j : Int} {s p : PyData} (hv : IsDr rows n) (hL : L = colsOf n rows) (hs : okS s = true) (hp : okP p = true) :
    m__law_is_spread [.d (drD rows), .d (.int i), .d (.int j), .d (.tuple [.str "warp", s, p])] = some (.d (.bool (spreadOk L m i s p)), [.d (drD rows), .d (.int i), .d (.int j), .d (.tuple [.str "warp", s, p])]) := by
  apply OV.eq
  have hkk : okK (.str "warp") = true := by decide +kernel
  have hkk2 : isK (.str "warp") = true := by decide +kernel
  obtain ⟨t, ht1, ht2⟩ := repr_k hkk
  rw [hkk2] at ht2
  have r2 := hv.r2
  obtain ⟨r0, hr0, hr1, hr2⟩ := hv.at0
  rw [m__law_is_spread, OV_defn]
  have n2 := hv.n2
  have lv := v.l2
  have mv := v.m2
  have l0v := v.l1
  have l0 : (nth L 0).length = m := v.len _ (nth_mem (by decide) (by omega))
  have l0' : L2.atI L 0 = some (nth L 0) := atI_nth (by decide) (by omega)
  simp [tgIs, ht1, ht2, hr0, hr1, rngI_nat n (show n ≤ 100000 by omega)]
  refine ⟨by omega, ?_⟩
  apply WLc.mapOf PyData.int (fun c => tI (rows.map fun r => nth r c)) (fun c hc => by
    have hc' := mem_upto.mp hc
    simp [show rows.length < 100000 by omega]
    apply WLc.mapOf tI (fun r => .int (nth r c)) (fun r hr => by
      have := hv.len r hr
      simp [atI_nth hc'.1 (show c < r.length by omega)])
    simp)
  have e : (upto n).map (fun c => tI (rows.map fun r => nth r c)) = L.map tI := by rw [hL]; simp [colsOf]
  rw [e]
  simp
  cases s with
  | tuple xs =>
    cases p with
    | tuple qs =>
      simp only [okS, okP, Bool.and_eq_true, decide_eq_true_eq] at hs hp
      by_cases hle : (xs.length : Int) ≤ i
      · have : spreadOk L m i (.tuple xs) (.tuple qs) = false := by
          have : ¬ i < (xs.length : Int) := by omega
          simp [spreadOk, this]
        simp [tgIs, hle, this]
      · have hT : ∀ x ∈ xs, okT x = true := fun x hx => okB_T (List.all_eq_true.mp hs.1 x hx)
        simp [tgIs, hle]
        refine ⟨by omega, ?_⟩
        apply WLc.map (fun x => .bool (isIn 0 (L.length - 1) x)) (fun x hx => by simp [e_law_is_whole (hT x hx)])
        obtain ⟨c, hc⟩ : ∃ c, xs.all (fun x => isIn 0 (L.length - 1) x) = c := ⟨_, rfl⟩
        have hc' : inAll L.length xs = c := hc
        simp [all_map, hc]
        cases c with
        | false =>
          have : spreadOk L m i (.tuple xs) (.tuple qs) = false := by
            have : isLot L.length (.tuple xs) = false := by simp [isLot, hc']
            simp [spreadOk, this]
          simp [this]
        | true =>
          obtain ⟨ns, rfl, hn⟩ := lot_ints hc'
          have few : (setI ns).length ≤ 12 := setI_few (m := 12) fun z hz => by have := hn z hz; omega
          have hl1 : ns.length ≤ 30 := by simpa using hs.2
          have hne : dNe (.list (ns.map .int)) (.list ((setI ns).map .int)) = some (.bool (!rising ns)) := by
            rw [dNe_enc (enc_int 0).lst (by decide) ns (setI ns), rising_set]
          simp [setL_tI ns (by omega) (by omega), hne]
          cases hr : rising ns with
          | false =>
            have : spreadOk L m i (tI ns) (.tuple qs) = false := by
              have : isLot L.length (tI ns) = false := by
                show (inAll L.length (ns.map .int) && rising (pints (ns.map .int))) = false
                rw [pints_map, hr]; simp
              simp [spreadOk, this]
            simp [this]
          | true =>
            have hlot : LotI L.length ns := ⟨(rising_pw ns).mp hr, fun z hz => by have := hn z hz; omega⟩
            have hb := prs_len ns
            have hb2 : ns.length * ns.length ≤ 30 * 30 := Nat.mul_le_mul hl1 hl1
            have hprs := prs_rising hlot.1
            have hsp : spreadOk L m i (tI ns) (.tuple qs) = (decide (qs.length = (prs ns).length) && zipOk L m qs (prs ns)) := by
              have h1 : isLot L.length (tI ns) = true := by
                show (inAll L.length (ns.map .int) && rising (pints (ns.map .int))) = true
                rw [pints_map, hr, hc']; rfl
              have h2 : decide ((ns.length : Int) > i) = true := by
                have : ¬ ((ns.length : Int) ≤ i) := by simpa using hle
                simp; omega
              show (isLot L.length (tI ns) && (decide (((ns.map PyData.int).length : Int) > i) && decide (qs.length = (prs (pints (ns.map .int))).length) && zipOk L m qs (prs (pints (ns.map .int))))) = _
              rw [pints_map, h1, List.length_map, h2]
              simp
            simp
            apply WFor.invOfA PyData.int (fun pre S => ∃ t u ps, S = [.d (drD rows), .d (.int i), .d (.int j), .d (.tuple [.str "warp", tI ns, .tuple qs]), .d (.list (L.map tI)), .d (.int i), .d (tI ns), .d (.tuple qs), .own false (ps.map prD), t, .un, .un, .un, u, .un] ∧ ps = pre.flatMap (gp ns)) ⟨_, _, [], rfl, rfl⟩
            · rintro pre a post S he ⟨t, u, ps, rfl, hps⟩
              have hln : ns.length < 100000 := by omega
              have hpl : ps.length ≤ 900 := by
                have : (prs ns).length = (ns.flatMap (gp ns)).length := by rw [hprs]
                rw [he, List.flatMap_append, List.length_append, ← he, ← hps] at this
                omega
              simp [hln]
              apply WLc.fmapOf PyData.int (fun y => if a < y then some (prD (a, y)) else none) (fun y hy => by
                by_cases h : a < y <;> simp [h, prD])
              have hfm : ns.filterMap (fun y => if a < y then some (prD (a, y)) else none) = (gp ns a).map prD := by
                unfold gp
                generalize ns = l
                induction l with
                | nil => rfl
                | cons p l ih => by_cases h : a < p <;> simp [h, ih]
              have hm : mExtend (ps.map prD) [.list ((gp ns a).map prD)] = some (.none, (ps ++ gp ns a).map prD) := by
                have := gp_len ns a
                show (if _ then _ else _) = _
                rw [if_pos (by simpa using by omega)]
                simp
              rw [hfm]
              simp only [w_nil, OV_map, takeAll_cons, takeO_dat, Option.bind_some, takeAll_nil, Option.map_some, OV_some, List.getElem?_cons_succ, List.getElem?_cons_zero, wm_o, hm]
              simp [-List.map_map, -List.map_append]
              exact ⟨_, _, _, rfl, by rw [hps, List.flatMap_append]; simp⟩
            · rintro S ⟨t, u, ps, rfl, hps⟩
              rw [hprs] at hps
              subst hps
              by_cases hq : qs.length = (prs ns).length
              · simp [hq]
                refine ⟨by omega, ?_⟩
                have hT3 : ∀ q ∈ qs, okT q = true := fun q hq => by
                  have := List.all_eq_true.mp hp.1 q hq
                  cases q <;> simp_all [okQ, okT]
                apply WLc.map (fun q => .bool (tri q)) (fun q hq => by
                  have := List.all_eq_true.mp hp.1 q hq
                  match q, this with
                  | .none, _ => simp [tgIs, tri]
                  | .tuple [a, b], _ => simp [tgIs, tri]
                  | .tuple [a, b, c], _ => simp [tgIs, tri]
                  )
                obtain ⟨c, hc⟩ : ∃ c, qs.all (fun q => tri q) = c := ⟨_, rfl⟩
                simp [all_map, hc]
                cases c with
                | false =>
                  have := zipOk_tri (L := L) (m := m) hq hc
                  simp [hsp, hq, this]
                | true =>
                  have hz : zipD ((prs ns).map prD) qs = ((prs ns).zip qs).map fun x => .tuple [prD x.1, x.2] := by
                    have := zipD_map prD (fun x : PyData => x) (prs ns) qs
                    rw [List.map_id'] at this
                    rw [this]
                  simp [hz]
                  apply WFor.invOfA (fun x : (Int × Int) × PyData => PyData.tuple [prD x.1, x.2]) (fun pre S => ∃ t u v w, S = [.d (drD rows), .d (.int i), .d (.int j), .d (.tuple [.str "warp", tI ns, .tuple qs]), .d (.list (L.map tI)), .d (.int i), .d (tI ns), .d (.tuple qs), .d (.list ((prs ns).map prD)), t, u, v, .un, w, .un] ∧ pre.all (fun x => placeOk L m x.1.1 x.1.2 x.2) = true) ⟨_, _, _, _, rfl, rfl⟩
                  · rintro pre x post S he ⟨t, u, vv, w, rfl, hpre⟩
                    obtain ⟨⟨a, b⟩, q⟩ := x
                    have hmem : ((a, b), q) ∈ (prs ns).zip qs := by rw [he]; simp
                    have hq1 := (List.of_mem_zip hmem).2
                    have hq2 := prs_mem (List.of_mem_zip hmem).1
                    have ha : 0 ≤ a ∧ a < L.length := hlot.2 _ hq2.1
                    have hb : 0 ≤ b ∧ b < L.length := hlot.2 _ hq2.2
                    have hqo := List.all_eq_true.mp hp.1 q hq1
                    have hqt := List.all_eq_true.mp hc q hq1
                    have rb : L.length ≤ 12 := lv
                    match q, hqo, hqt, hmem with
                    | .tuple [x, y, c], hqo, _, hmem =>
                      have bad : placeOk L m a b (.tuple [x, y, c]) = false → spreadOk L m i (tI ns) (.tuple qs) = false := fun h => by
                        rw [hsp, zipOk_false hmem h]; simp
                      simp only [okQ, Bool.and_eq_true] at hqo
                      obtain ⟨⟨hx, hy⟩, hcc⟩ := hqo
                      have k1 : cutD [x, y, c] none (some 2) = [x, y] := by rw [cutI_to (by decide)]; rfl
                      have oa : okA (.int a) = true := by simp [okA]; omega
                      have ob : okA (.int b) = true := by simp [okA]; omega
                      have rp1 := repr_pair hx hy
                      have rp2 : dRepr [prD (a, b)] = some (.str (prD (a, b)).shown) := repr_pair oa ob
                      have pt := pair_text hx hy (i := a) (j := b) (by omega) (by omega)
                      have hpo : placeOk L m a b (.tuple [x, y, c]) = (isI a x && (isI b y && (isIn 0 (m - 1) c && cellNe L a b c))) := rfl
                      simp [k1, rp1, rp2]
                      by_cases hp2 : (isI a x && isI b y) = true
                      · have he2 := pt.mpr hp2
                        rw [Bool.and_eq_true] at hp2
                        simp [he2, l0', l0, e_law_is_whole (okA_T hcc)]
                        cases hci : isIn 0 ((m : Int) - 1) c with
                        | false =>
                          have := bad (by rw [hpo, hci]; simp)
                          simp [this]
                        | true =>
                          obtain ⟨cc, rfl, c1, c2⟩ := isIn_some hci
                          have hli := v.len _ (nth_mem ha.1 ha.2)
                          have hlj := v.len _ (nth_mem hb.1 hb.2)
                          simp [atI_nth ha.1 ha.2, atI_nth hb.1 hb.2, atI_nth c1 (show cc < (nth L a).length by omega), atI_nth c1 (show cc < (nth L b).length by omega)]
                          by_cases hce : nth (nth L a) cc = nth (nth L b) cc
                          · have := bad (by rw [hpo]; simp [cell, cellNe, hce])
                            simp [hce, this]
                          · simp [hce]
                            refine ⟨_, _, _, _, rfl, ?_⟩
                            rw [List.all_append, hpre]
                            simp [hpo, hp2.1, hp2.2, hci, cell, cellNe, hce]
                      · have he2 : ¬ ((PyData.tuple [x, y]).shown = (prD (a, b)).shown) := fun h => hp2 (pt.mp h)
                        have := bad (by
                          rw [Bool.not_eq_true] at hp2
                          rw [hpo, ← Bool.and_assoc, hp2]; rfl)
                        simp [he2, this]
                  · rintro S ⟨t, u, vv, w, rfl, hall⟩
                    have := zipOk_true hall
                    simp [hsp, hq, this]
              · have hq' : ¬ ((qs.length : Int) = (prs ns).length) := by omega
                simp [hq', hsp, hq]
    | list qs => simp [tgIs, spreadOk]
    | _ => simp [okP] at hp
  | list xs => simp [tgIs, spreadOk, isLot]
  | none => simp [tgIs, spreadOk, isLot]
  | _ => simp [okS] at hs
theorem e_law_weft (v : LN L m) {i j : Int} {s p : PyData} (hv : IsDr rows n) (hL : L = rows) (hs : okS s = true) (hp : okP p = true) :
    m__law_is_spread [.d (drD rows), .d (.int i), .d (.int j), .d (.tuple [.str "weft", s, p])] = some (.d (.bool (spreadOk L m j s p)), [.d (drD rows), .d (.int i), .d (.int j), .d (.tuple [.str "weft", s, p])]) := by
  apply OV.eq
  have hkk : okK (.str "weft") = true := by decide +kernel
  have hkk2 : isK (.str "weft") = true := by decide +kernel
  obtain ⟨t, ht1, ht2⟩ := repr_k hkk
  rw [hkk2] at ht2
  have r2 := hv.r2
  obtain ⟨r0, hr0, hr1, hr2⟩ := hv.at0
  rw [m__law_is_spread, OV_defn]
  have n2 := hv.n2
  have lv := v.l2
  have mv := v.m2
  have l0v := v.l1
  have l0 : (nth L 0).length = m := v.len _ (nth_mem (by decide) (by omega))
  have l0' : L2.atI L 0 = some (nth L 0) := atI_nth (by decide) (by omega)
  have e : rows.map tI = L.map tI := by rw [hL]
  simp [tgIs, ht1, ht2, hr0, hr1, warp_ne, e]
  cases s with
  | tuple xs =>
    cases p with
    | tuple qs =>
      simp only [okS, okP, Bool.and_eq_true, decide_eq_true_eq] at hs hp
      by_cases hle : (xs.length : Int) ≤ j
      · have : spreadOk L m j (.tuple xs) (.tuple qs) = false := by
          have : ¬ j < (xs.length : Int) := by omega
          simp [spreadOk, this]
        simp [tgIs, hle, this]
      · have hT : ∀ x ∈ xs, okT x = true := fun x hx => okB_T (List.all_eq_true.mp hs.1 x hx)
        simp [tgIs, hle]
        refine ⟨by omega, ?_⟩
        apply WLc.map (fun x => .bool (isIn 0 (L.length - 1) x)) (fun x hx => by simp [e_law_is_whole (hT x hx)])
        obtain ⟨c, hc⟩ : ∃ c, xs.all (fun x => isIn 0 (L.length - 1) x) = c := ⟨_, rfl⟩
        have hc' : inAll L.length xs = c := hc
        simp [all_map, hc]
        cases c with
        | false =>
          have : spreadOk L m j (.tuple xs) (.tuple qs) = false := by
            have : isLot L.length (.tuple xs) = false := by simp [isLot, hc']
            simp [spreadOk, this]
          simp [this]
        | true =>
          obtain ⟨ns, rfl, hn⟩ := lot_ints hc'
          have few : (setI ns).length ≤ 12 := setI_few (m := 12) fun z hz => by have := hn z hz; omega
          have hl1 : ns.length ≤ 30 := by simpa using hs.2
          have hne : dNe (.list (ns.map .int)) (.list ((setI ns).map .int)) = some (.bool (!rising ns)) := by
            rw [dNe_enc (enc_int 0).lst (by decide) ns (setI ns), rising_set]
          simp [setL_tI ns (by omega) (by omega), hne]
          cases hr : rising ns with
          | false =>
            have : spreadOk L m j (tI ns) (.tuple qs) = false := by
              have : isLot L.length (tI ns) = false := by
                show (inAll L.length (ns.map .int) && rising (pints (ns.map .int))) = false
                rw [pints_map, hr]; simp
              simp [spreadOk, this]
            simp [this]
          | true =>
            have hlot : LotI L.length ns := ⟨(rising_pw ns).mp hr, fun z hz => by have := hn z hz; omega⟩
            have hb := prs_len ns
            have hb2 : ns.length * ns.length ≤ 30 * 30 := Nat.mul_le_mul hl1 hl1
            have hprs := prs_rising hlot.1
            have hsp : spreadOk L m j (tI ns) (.tuple qs) = (decide (qs.length = (prs ns).length) && zipOk L m qs (prs ns)) := by
              have h1 : isLot L.length (tI ns) = true := by
                show (inAll L.length (ns.map .int) && rising (pints (ns.map .int))) = true
                rw [pints_map, hr, hc']; rfl
              have h2 : decide ((ns.length : Int) > j) = true := by
                have : ¬ ((ns.length : Int) ≤ j) := by simpa using hle
                simp; omega
              show (isLot L.length (tI ns) && (decide (((ns.map PyData.int).length : Int) > j) && decide (qs.length = (prs (pints (ns.map .int))).length) && zipOk L m qs (prs (pints (ns.map .int))))) = _
              rw [pints_map, h1, List.length_map, h2]
              simp
            simp
            apply WFor.invOfA PyData.int (fun pre S => ∃ t u ps, S = [.d (drD rows), .d (.int i), .d (.int j), .d (.tuple [.str "weft", tI ns, .tuple qs]), .d (.list (L.map tI)), .d (.int j), .d (tI ns), .d (.tuple qs), .own false (ps.map prD), t, .un, .un, .un, u, .un] ∧ ps = pre.flatMap (gp ns)) ⟨_, _, [], rfl, rfl⟩
            · rintro pre a post S he ⟨t, u, ps, rfl, hps⟩
              have hln : ns.length < 100000 := by omega
              have hpl : ps.length ≤ 900 := by
                have : (prs ns).length = (ns.flatMap (gp ns)).length := by rw [hprs]
                rw [he, List.flatMap_append, List.length_append, ← he, ← hps] at this
                omega
              simp [hln]
              apply WLc.fmapOf PyData.int (fun y => if a < y then some (prD (a, y)) else none) (fun y hy => by
                by_cases h : a < y <;> simp [h, prD])
              have hfm : ns.filterMap (fun y => if a < y then some (prD (a, y)) else none) = (gp ns a).map prD := by
                unfold gp
                generalize ns = l
                induction l with
                | nil => rfl
                | cons p l ih => by_cases h : a < p <;> simp [h, ih]
              have hm : mExtend (ps.map prD) [.list ((gp ns a).map prD)] = some (.none, (ps ++ gp ns a).map prD) := by
                have := gp_len ns a
                show (if _ then _ else _) = _
                rw [if_pos (by simpa using by omega)]
                simp
              rw [hfm]
              simp only [w_nil, OV_map, takeAll_cons, takeO_dat, Option.bind_some, takeAll_nil, Option.map_some, OV_some, List.getElem?_cons_succ, List.getElem?_cons_zero, wm_o, hm]
              simp [-List.map_map, -List.map_append]
              exact ⟨_, _, _, rfl, by rw [hps, List.flatMap_append]; simp⟩
            · rintro S ⟨t, u, ps, rfl, hps⟩
              rw [hprs] at hps
              subst hps
              by_cases hq : qs.length = (prs ns).length
              · simp [hq]
                refine ⟨by omega, ?_⟩
                have hT3 : ∀ q ∈ qs, okT q = true := fun q hq => by
                  have := List.all_eq_true.mp hp.1 q hq
                  cases q <;> simp_all [okQ, okT]
                apply WLc.map (fun q => .bool (tri q)) (fun q hq => by
                  have := List.all_eq_true.mp hp.1 q hq
                  match q, this with
                  | .none, _ => simp [tgIs, tri]
                  | .tuple [a, b], _ => simp [tgIs, tri]
                  | .tuple [a, b, c], _ => simp [tgIs, tri]
                  )
                obtain ⟨c, hc⟩ : ∃ c, qs.all (fun q => tri q) = c := ⟨_, rfl⟩
                simp [all_map, hc]
                cases c with
                | false =>
                  have := zipOk_tri (L := L) (m := m) hq hc
                  simp [hsp, hq, this]
                | true =>
                  have hz : zipD ((prs ns).map prD) qs = ((prs ns).zip qs).map fun x => .tuple [prD x.1, x.2] := by
                    have := zipD_map prD (fun x : PyData => x) (prs ns) qs
                    rw [List.map_id'] at this
                    rw [this]
                  simp [hz]
                  apply WFor.invOfA (fun x : (Int × Int) × PyData => PyData.tuple [prD x.1, x.2]) (fun pre S => ∃ t u v w, S = [.d (drD rows), .d (.int i), .d (.int j), .d (.tuple [.str "weft", tI ns, .tuple qs]), .d (.list (L.map tI)), .d (.int j), .d (tI ns), .d (.tuple qs), .d (.list ((prs ns).map prD)), t, u, v, .un, w, .un] ∧ pre.all (fun x => placeOk L m x.1.1 x.1.2 x.2) = true) ⟨_, _, _, _, rfl, rfl⟩
                  · rintro pre x post S he ⟨t, u, vv, w, rfl, hpre⟩
                    obtain ⟨⟨a, b⟩, q⟩ := x
                    have hmem : ((a, b), q) ∈ (prs ns).zip qs := by rw [he]; simp
                    have hq1 := (List.of_mem_zip hmem).2
                    have hq2 := prs_mem (List.of_mem_zip hmem).1
                    have ha : 0 ≤ a ∧ a < L.length := hlot.2 _ hq2.1
                    have hb : 0 ≤ b ∧ b < L.length := hlot.2 _ hq2.2
                    have hqo := List.all_eq_true.mp hp.1 q hq1
                    have hqt := List.all_eq_true.mp hc q hq1
                    have rb : L.length ≤ 12 := lv
                    match q, hqo, hqt, hmem with
                    | .tuple [x, y, c], hqo, _, hmem =>
                      have bad : placeOk L m a b (.tuple [x, y, c]) = false → spreadOk L m j (tI ns) (.tuple qs) = false := fun h => by
                        rw [hsp, zipOk_false hmem h]; simp
                      simp only [okQ, Bool.and_eq_true] at hqo
                      obtain ⟨⟨hx, hy⟩, hcc⟩ := hqo
                      have k1 : cutD [x, y, c] none (some 2) = [x, y] := by rw [cutI_to (by decide)]; rfl
                      have oa : okA (.int a) = true := by simp [okA]; omega
                      have ob : okA (.int b) = true := by simp [okA]; omega
                      have rp1 := repr_pair hx hy
                      have rp2 : dRepr [prD (a, b)] = some (.str (prD (a, b)).shown) := repr_pair oa ob
                      have pt := pair_text hx hy (i := a) (j := b) (by omega) (by omega)
                      have hpo : placeOk L m a b (.tuple [x, y, c]) = (isI a x && (isI b y && (isIn 0 (m - 1) c && cellNe L a b c))) := rfl
                      simp [k1, rp1, rp2]
                      by_cases hp2 : (isI a x && isI b y) = true
                      · have he2 := pt.mpr hp2
                        rw [Bool.and_eq_true] at hp2
                        simp [he2, l0', l0, e_law_is_whole (okA_T hcc)]
                        cases hci : isIn 0 ((m : Int) - 1) c with
                        | false =>
                          have := bad (by rw [hpo, hci]; simp)
                          simp [this]
                        | true =>
                          obtain ⟨cc, rfl, c1, c2⟩ := isIn_some hci
                          have hli := v.len _ (nth_mem ha.1 ha.2)
                          have hlj := v.len _ (nth_mem hb.1 hb.2)
                          simp [atI_nth ha.1 ha.2, atI_nth hb.1 hb.2, atI_nth c1 (show cc < (nth L a).length by omega), atI_nth c1 (show cc < (nth L b).length by omega)]
                          by_cases hce : nth (nth L a) cc = nth (nth L b) cc
                          · have := bad (by rw [hpo]; simp [cell, cellNe, hce])
                            simp [hce, this]
                          · simp [hce]
                            refine ⟨_, _, _, _, rfl, ?_⟩
                            rw [List.all_append, hpre]
                            simp [hpo, hp2.1, hp2.2, hci, cell, cellNe, hce]
                      · have he2 : ¬ ((PyData.tuple [x, y]).shown = (prD (a, b)).shown) := fun h => hp2 (pt.mp h)
                        have := bad (by
                          rw [Bool.not_eq_true] at hp2
                          rw [hpo, ← Bool.and_assoc, hp2]; rfl)
                        simp [he2, this]
                  · rintro S ⟨t, u, vv, w, rfl, hall⟩
                    have := zipOk_true hall
                    simp [hsp, hq, this]
              · have hq' : ¬ ((qs.length : Int) = (prs ns).length) := by omega
                simp [hq', hsp, hq]
    | list qs => simp [tgIs, spreadOk]
    | _ => simp [okP] at hp
  | list xs => simp [tgIs, spreadOk, isLot]
  | none => simp [tgIs, spreadOk, isLot]
  | _ => simp [okS] at hs
end PK88

set_option Elab.async false
set_option linter.all false
set_option maxRecDepth 100000
set_option maxHeartbeats 4000000
namespace PK88
open PySem DL
variable {L : List (List Int)} {m : Nat} {rows : List (List Int)} {n : Nat}
theorem e_law_is_spread (v : IsDr rows n) {i j : Int} {x : PyData} (hx : okV x = true) :
    m__law_is_spread [.d (drD rows), .d (.int i), .d (.int j), .d x] = some (.d (.bool (spOk rows n i j x)), [.d (drD rows), .d (.int i), .d (.int j), .d x]) := by
  have no : ∀ x : PyData, isTy .tuple x = some false → spOk rows n i j x = false → m__law_is_spread [.d (drD rows), .d (.int i), .d (.int j), .d x] = some (.d (.bool (spOk rows n i j x)), [.d (drD rows), .d (.int i), .d (.int j), .d x]) := by
    intro x a c
    apply OV.eq
    rw [m__law_is_spread, OV_defn]
    simp [a, c]
  have nt : ∀ xs : List PyData, xs.length ≠ 3 → m__law_is_spread [.d (drD rows), .d (.int i), .d (.int j), .d (.tuple xs)] = some (.d (.bool (spOk rows n i j (.tuple xs))), [.d (drD rows), .d (.int i), .d (.int j), .d (.tuple xs)]) := by
    intro xs h
    have h1 : ¬ ((xs.length : Int) = 3) := by omega
    have h2 : spOk rows n i j (.tuple xs) = false := by
      unfold spOk
      split
      · rename_i q; cases q; simp at h
      · rfl
    apply OV.eq
    rw [m__law_is_spread, OV_defn]
    simp [tgIs, h1, h2]
  have nk : ∀ k s p : PyData, okK k = true → isK k = false → m__law_is_spread [.d (drD rows), .d (.int i), .d (.int j), .d (.tuple [k, s, p])] = some (.d (.bool (spOk rows n i j (.tuple [k, s, p]))), [.d (drD rows), .d (.int i), .d (.int j), .d (.tuple [k, s, p])]) := by
    intro k s p hk hn
    obtain ⟨t, ht1, ht2⟩ := repr_k hk
    rw [hn] at ht2
    have h2 : spOk rows n i j (.tuple [k, s, p]) = false := by
      cases k with
      | str z =>
        simp only [isK, Bool.or_eq_false_iff, decide_eq_false_iff_not] at hn
        simp [spOk, hn.1, hn.2]
      | _ => simp [spOk]
    apply OV.eq
    rw [m__law_is_spread, OV_defn]
    simp [tgIs, ht1, ht2, h2]
  cases x with
  | tuple xs =>
    match xs, hx with
    | [], _ => exact nt _ (by simp)
    | [k, s], _ => exact nt _ (by simp)
    | [k, s, p], hx =>
      simp only [okV, Bool.and_eq_true] at hx
      obtain ⟨⟨hk, hs⟩, hp⟩ := hx
      cases hkk : isK k with
      | false => exact nk _ _ _ hk hkk
      | true =>
        cases k with
        | str z =>
          simp only [isK, Bool.or_eq_true, decide_eq_true_eq] at hkk
          rcases hkk with rfl | rfl
          · have := e_law_warp (LN.of v.cols) v rfl hs hp (i := i) (j := j)
            simpa [spOk] using this
          · have := e_law_weft (LN.of v) v rfl hs hp (i := i) (j := j)
            simpa [spOk, warp_ne] using this
        | _ => simp [isK] at hkk
  | dict kvs =>
    simp only [okV, List.isEmpty_iff] at hx
    subst hx
    exact no _ rfl (by simp [spOk])
  | list xs => exact no _ rfl (by simp [spOk])
  | none => exact no _ rfl (by simp [spOk])
  | int z => exact no _ rfl (by simp [spOk])
  | str z => exact no _ rfl (by simp [spOk])
  | bool b => simp [okV] at hx
/-! texts of the values -/
theorem okQ_R {q : PyData} (h : okQ q = true) : okR q = true ∧ wt q ≤ 72 ∧ q.depth ≤ 1 := by
  match q, h with
  | .none, _ => simp [okR, wt, PyData.depth]
  | .tuple [a, b], h =>
    simp only [okQ, Bool.and_eq_true] at h
    obtain ⟨a1, a2, a3⟩ := okA_R h.1
    obtain ⟨b1, b2, b3⟩ := okA_R h.2
    exact ⟨by simp [okR, okRL, a1, b1], by simp only [wt, wtL]; omega, by simp [PyData.depth, PyData.depthAll, a3, b3]⟩
  | .tuple [a, b, c], h =>
    simp only [okQ, Bool.and_eq_true] at h
    obtain ⟨a1, a2, a3⟩ := okA_R h.1.1
    obtain ⟨b1, b2, b3⟩ := okA_R h.1.2
    obtain ⟨c1, c2, c3⟩ := okA_R h.2
    exact ⟨by simp [okR, okRL, a1, b1, c1], by simp only [wt, wtL]; omega, by simp [PyData.depth, PyData.depthAll, a3, b3, c3]⟩
theorem okB_R {q : PyData} (h : okB q = true) : okR q = true ∧ wt q ≤ 72 ∧ q.depth ≤ 1 := by
  cases q with
  | int i => simp only [okB, Bool.and_eq_true, decide_eq_true_eq] at h; exact ⟨by simp only [okR, decide_eq_true_eq]; omega, by simp [wt], by simp [PyData.depth]⟩
  | bool b => simp [okR, wt, PyData.depth]
  | _ => simp [okB] at h
theorem G_all {f : PyData → Bool} (hf : ∀ x, f x = true → okR x = true ∧ wt x ≤ 72 ∧ x.depth ≤ 1) : ∀ {xs : List PyData}, xs.all f = true → G 1 (74 * xs.length) xs
  | [], _ => .nil
  | x :: xs, h => by
    rw [List.all_cons, Bool.and_eq_true] at h
    obtain ⟨h1, h2, h3⟩ := hf x h.1
    have := (G.one (n := 1) (w := 74) h1 (by omega) h3).append (G_all hf h.2)
    exact this.mono (Nat.le_refl _) (by simp; omega)
theorem okS_R {s : PyData} (h : okS s = true) : okR s = true ∧ wt s ≤ 3000 ∧ s.depth ≤ 2 := by
  cases s with
  | none => simp [okR, wt, PyData.depth]
  | list xs =>
    simp only [okS, Bool.and_eq_true, decide_eq_true_eq] at h
    obtain ⟨h1, h2, h3⟩ := (G_all (fun _ => okB_R) h.1).list
    exact ⟨h1, by omega, h3⟩
  | tuple xs =>
    simp only [okS, Bool.and_eq_true, decide_eq_true_eq] at h
    obtain ⟨h1, h2, h3⟩ := (G_all (fun _ => okB_R) h.1).tuple
    exact ⟨h1, by omega, h3⟩
  | _ => simp [okS] at h
theorem okP_R {s : PyData} (h : okP s = true) : okR s = true ∧ wt s ≤ 15000 ∧ s.depth ≤ 2 := by
  cases s with
  | list xs =>
    simp only [okP, Bool.and_eq_true, decide_eq_true_eq] at h
    obtain ⟨h1, h2, h3⟩ := (G_all (fun _ => okQ_R) h.1).list
    exact ⟨h1, by omega, h3⟩
  | tuple xs =>
    simp only [okP, Bool.and_eq_true, decide_eq_true_eq] at h
    obtain ⟨h1, h2, h3⟩ := (G_all (fun _ => okQ_R) h.1).tuple
    exact ⟨h1, by omega, h3⟩
  | _ => simp [okP] at h
theorem okK_R {s : PyData} (h : okK s = true) : okR s = true ∧ wt s ≤ 100 ∧ s.depth ≤ 2 := by
  cases s with
  | str x =>
    simp only [okK, Bool.or_eq_true, decide_eq_true_eq] at h
    have : (reprText x).length ≤ 100 := by
      rcases h with (rfl | rfl) | rfl <;> decide +kernel
    exact ⟨by simp [okR], by simpa [wt] using this, by simp [PyData.depth]⟩
  | none => simp [okR, wt, PyData.depth]
  | int i =>
    have : i = 0 := by simpa [okK] using h
    subst this
    simp [okR, wt, PyData.depth]
  | _ => simp [okK] at h
theorem okV_repr {x : PyData} (h : okV x = true) : reprOk x = true := by
  have three : ∀ k s p : PyData, (okK k && okS s && okP p) = true → G 2 20000 [k, s, p] := by
    intro k s p h
    simp only [Bool.and_eq_true] at h
    obtain ⟨a1, a2, a3⟩ := okK_R h.1.1
    obtain ⟨b1, b2, b3⟩ := okS_R h.1.2
    obtain ⟨c1, c2, c3⟩ := okP_R h.2
    exact ((G.one (n := 2) a1 (Nat.le_refl _) a3).append ((G.one b1 (Nat.le_refl _) b3).append (G.one c1 (Nat.le_refl _) c3))).mono (Nat.le_refl _) (by omega)
  cases x with
  | none => decide +kernel
  | int i =>
    have : i = 0 := by simpa [okV] using h
    subst this; decide +kernel
  | str s =>
    have : s = "spread" := by simpa [okV] using h
    subst this; decide +kernel
  | dict kvs =>
    simp only [okV, List.isEmpty_iff] at h
    subst h; decide +kernel
  | list xs =>
    match xs, h with
    | [k, s, p], h =>
      obtain ⟨h1, h2, h3⟩ := (three k s p h).list
      exact reprOk_of h1 (by omega) (by omega)
  | tuple xs =>
    match xs, h with
    | [], _ => decide +kernel
    | [k, s], h =>
      simp only [okV, Bool.and_eq_true] at h
      obtain ⟨a1, a2, a3⟩ := okK_R h.1
      obtain ⟨b1, b2, b3⟩ := okS_R h.2
      have hg : G 2 20000 [k, s] := ((G.one (n := 2) a1 (Nat.le_refl _) a3).append (G.one b1 (Nat.le_refl _) b3)).mono (Nat.le_refl _) (by omega)
      obtain ⟨h1, h2, h3⟩ := hg.tuple
      exact reprOk_of h1 (by omega) (by omega)
    | [k, s, p], h =>
      obtain ⟨h1, h2, h3⟩ := (three k s p h).tuple
      exact reprOk_of h1 (by omega) (by omega)
  | bool b => simp [okV] at h
theorem dRepr_ok {x : PyData} (h : reprOk x = true) : dRepr [x] = some (.str x.shown) := by
  show (if _ then _ else _) = _
  rw [if_pos h]
end PK88

set_option Elab.async false
set_option linter.all false
set_option maxRecDepth 100000
set_option maxHeartbeats 4000000
namespace PK88
open PySem DL
variable {L : List (List Int)} {m : Nat} {rows : List (List Int)} {n : Nat}
structure Base (kind : Str) (ns : List Int) (ps : List (Int × Int × Int)) : Prop where
  k : kind = "warp" ∨ kind = "weft"
  n1 : ∀ x ∈ ns, 0 ≤ x ∧ x ≤ 11
  n2 : ns.length ≤ 12
  p1 : ∀ p ∈ ps, (0 ≤ p.1 ∧ p.1 ≤ 11) ∧ (0 ≤ p.2.1 ∧ p.2.1 ≤ 11) ∧ 0 ≤ p.2.2 ∧ p.2.2 ≤ 11
  p2 : ps.length ≤ 144
theorem w_drawn (v : IsDr rows n) {a b k : Int} (h1 : 0 ≤ k) (h2 : k ≤ 12) {Q : SD × List SD → Prop} (hQ : ∀ kind ns ps a' b', Base kind ns ps → Q (.d (spD kind ns ps), [P a' b', .d (drD rows), .d (.int k)])) :
    OV (m__law_drawn [P a b, .d (drD rows), .d (.int k)]) Q := by
  have r2 := v.r2
  have n2 := v.n2
  obtain ⟨r0, hr0, hr1, hr2⟩ := v.at0
  rw [m__law_drawn, OV_defn]
  simp
  apply w_pick (by simp) (by simp)
  intro x a b hx
  simp only [List.mem_cons, List.not_mem_nil, or_false] at hx
  rcases hx with rfl | rfl
  case' inl =>
    simp [hr0, hr1, rngI_nat n (show n ≤ 100000 by omega)]
    refine ⟨by omega, ?_⟩
    apply WLc.mapOf PyData.int (fun c => tI (rows.map fun r => nth r c)) (fun c hc => by
      have hc' := mem_upto.mp hc
      simp [show rows.length < 100000 by omega]
      apply WLc.mapOf tI (fun r => .int (nth r c)) (fun r hr => by
        have := v.len r hr
        simp [atI_nth hc'.1 (show c < r.length by omega)])
      simp)
    have e : (upto n).map (fun c => tI (rows.map fun r => nth r c)) = (colsOf n rows).map tI := by simp [colsOf]
    rw [e]
    have v2 := LN.of v.cols
    obtain ⟨kind, hk1⟩ : ∃ kd : Str, kd = "warp" := ⟨_, rfl⟩
    have kk : kind = "warp" ∨ kind = "weft" := .inl hk1
    rw [← hk1]
    clear hk1
    generalize hL : colsOf n rows = L at v2 ⊢
    generalize hm : rows.length = m at v2
    clear hm hL
  case' inr =>
    simp [warp_ne]
    have v2 := LN.of v
    obtain ⟨kind, hk1⟩ : ∃ kd : Str, kd = "weft" := ⟨_, rfl⟩
    have kk : kind = "warp" ∨ kind = "weft" := .inr hk1
    rw [← hk1]
    clear hk1
    obtain ⟨L, hL⟩ : ∃ L, L = rows := ⟨_, rfl⟩
    have e : rows.map tI = L.map tI := by rw [hL]
    rw [e]
    have e3 : rows.length = L.length := by rw [hL]
    simp only [e3]
    rw [← hL] at v2
    obtain ⟨m, hm⟩ : ∃ m, m = n := ⟨_, rfl⟩
    rw [← hm] at v2
    clear hm hL e e3
  all_goals
    have l2 := v2.l2
    have l1 := v2.l1
    have m2 := v2.m2
    have m1 := v2.m1
    have rg : rgB 0 (L.length : Int) = true := by simp [rgB]; omega
    try simp
    simp only [rg, true_and]
    rw [rngD_upto]
    apply w_mixed (by simp; omega)
    intro ms a b hms
    have c1 : cutD (ms.map PyData.int) none (some (k + 1)) = (ms.take (k + 1).toNat).map .int := by rw [cutI_to (by omega), List.map_take]
    have ml := hms.length_eq
    rw [upto_len] at ml
    obtain ⟨ss, hss⟩ : ∃ ss, ss = sortI (ms.take (k + 1).toNat) := ⟨_, rfl⟩
    have sl : ss.length ≤ 12 := by rw [hss, (sortI_perm _).length_eq]; simp; omega
    have sm : ∀ x ∈ ss, 0 ≤ x ∧ x < L.length := fun x hx => by
      rw [hss] at hx
      have := (sortI_perm _).mem_iff.mp hx
      exact mem_upto.mp (hms.mem_iff.mp (List.mem_of_mem_take this))
    have c2 : dSortedL [.list ((ms.take (k + 1).toNat).map .int)] = some (ss.map .int) := by rw [hss]; exact sort_lI _
    simp [c1, -List.map_take, c2]
    apply WFor.invOfA PyData.int (fun pre S => ∃ a b t7 t8 t9 ps, S = [P a b, .d (drD rows), .d (.int k), .d (.str kind), .d (.list (L.map tI)), .d (.list (ss.map .int)), .own false (ps.map trD), t7, t8, t9, .un, .un, .un, .un] ∧ (∀ p ∈ ps, (0 ≤ p.1 ∧ p.1 ≤ 11) ∧ (0 ≤ p.2.1 ∧ p.2.1 ≤ 11) ∧ 0 ≤ p.2.2 ∧ p.2.2 ≤ 11) ∧ ps.length ≤ pre.length * 12) ⟨_, _, _, _, _, [], rfl, by simp, by simp⟩
    · rintro pre x post S he ⟨a, b, t7, t8, t9, ps, rfl, hp1, hp2⟩
      have hx := sm x (by rw [he]; simp)
      have hsl : ss.length < 100000 := by omega
      have hpl : pre.length ≤ 11 := by have := congrArg List.length he; simp at this; omega
      simp [hsl]
      apply WLc.fmapOf PyData.int (fun y => if x < y then some (.int y) else none) (fun y hy => by
        by_cases h : x < y <;> simp [h])
      have hfm : ss.filterMap (fun y => if x < y then some (PyData.int y) else none) = (ss.filter fun y => decide (x < y)).map .int := by
        generalize ss = l
        induction l with
        | nil => rfl
        | cons p l ih => by_cases h : x < p <;> simp [h, ih]
      rw [hfm]
      obtain ⟨us, hus⟩ : ∃ us, us = ss.filter fun y => decide (x < y) := ⟨_, rfl⟩
      have ul : us.length ≤ 12 := by rw [hus]; have := List.length_filter_le (fun y => decide (x < y)) ss; omega
      have um : ∀ y ∈ us, 0 ≤ y ∧ y < L.length := fun y hy => by rw [hus] at hy; exact sm y (List.mem_filter.mp hy).1
      rw [← hus]
      simp
      apply WFor.invOfA PyData.int (fun pre2 S => ∃ a b t8 t9 ps, S = [P a b, .d (drD rows), .d (.int k), .d (.str kind), .d (.list (L.map tI)), .d (.list (ss.map .int)), .own false (ps.map trD), .d (.int x), t8, t9, .un, .un, .un, .un] ∧ (∀ p ∈ ps, (0 ≤ p.1 ∧ p.1 ≤ 11) ∧ (0 ≤ p.2.1 ∧ p.2.1 ≤ 11) ∧ 0 ≤ p.2.2 ∧ p.2.2 ≤ 11) ∧ ps.length ≤ pre.length * 12 + pre2.length) ⟨_, _, _, _, ps, rfl, hp1, by simpa using hp2⟩
      · rintro pre2 y post2 S he2 ⟨a, b, t8, t9, ps, rfl, hp1, hp2⟩
        have hy := um y (by rw [he2]; simp)
        have hp2l : pre2.length ≤ 11 := by have := congrArg List.length he2; simp at this; omega
        have hlx := v2.len _ (nth_mem hx.1 hx.2)
        have hly := v2.len _ (nth_mem hy.1 hy.2)
        simp [atI_nth hx.1 hx.2]
        refine ⟨by omega, ?_⟩
        apply WLc.fmapOf (fun p : Int × Nat => PyData.tuple [.int (p.2 : Nat), .int p.1]) (fun p => if p.1 = nth (nth L y) (p.2 : Nat) then none else some (.int (p.2 : Nat))) (fun p hp => by
          obtain ⟨z, i⟩ := p
          have h1 := List.mem_zipIdx hp
          have h2 : (i : Int) < (nth L y).length := by omega
          simp only [] at *
          simp [atI_nth hy.1 hy.2, atI_nth (show (0 : Int) ≤ i by omega) h2, -nth_nat])
        obtain ⟨un, hun, hum⟩ : ∃ un : List Int, (nth L x).zipIdx.filterMap (fun p => if p.1 = nth (nth L y) (p.2 : Nat) then none else some (PyData.int (p.2 : Nat))) = un.map .int ∧ ∀ z ∈ un, 0 ≤ z ∧ z < m := by
          refine ⟨((nth L x).zipIdx.filter fun p => !decide (p.1 = nth (nth L y) (p.2 : Nat))).map fun p => ((p.2 : Nat) : Int), ?_, fun z hz => ?_⟩
          · generalize (nth L x).zipIdx = l
            induction l with
            | nil => rfl
            | cons p l ih => by_cases h : p.1 = nth (nth L y) (p.2 : Nat) <;> simp [h, ih, -nth_nat]
          · obtain ⟨p, hp, rfl⟩ := List.mem_map.mp hz
            obtain ⟨z, i⟩ := p
            have h1 := List.mem_zipIdx (List.mem_filter.mp hp).1
            simp only []
            omega
        have hul : un.length ≤ 12 := by
          have h1 := congrArg List.length hun
          have h2 := List.length_filterMap_le (fun p : Int × Nat => if p.1 = nth (nth L y) (p.2 : Nat) then none else some (PyData.int (p.2 : Nat))) (nth L x).zipIdx
          rw [h1] at h2
          simp at h2
          omega
        rw [hun]
        simp
        have fin : ∀ z : Int, 0 ≤ z → z ≤ 11 → (∀ p ∈ ps ++ [(x, y, z)], (0 ≤ p.1 ∧ p.1 ≤ 11) ∧ (0 ≤ p.2.1 ∧ p.2.1 ≤ 11) ∧ 0 ≤ p.2.2 ∧ p.2.2 ≤ 11) ∧ (ps ++ [(x, y, z)]).length ≤ pre.length * 12 + (pre2 ++ [y]).length := fun z z1 z2 => by
          refine ⟨fun p hp => ?_, by simp; omega⟩
          rcases List.mem_append.mp hp with hp | hp
          · exact hp1 p hp
          · rw [List.mem_singleton.mp hp]
            exact ⟨⟨hx.1, by simp only []; omega⟩, ⟨hy.1, by simp only []; omega⟩, z1, z2⟩
        have hpsl : ps.length < 100000 := by omega
        by_cases h : un = []
        · simp [h]
          apply w_pick (by simp) (by simp)
          intro q a b hq
          have hq : q = .int 0 := by simpa using hq
          subst hq
          simp [hpsl]
          exact ⟨_, _, _, _, ps ++ [(x, y, 0)], by rw [List.map_append]; rfl, fin 0 (by decide) (by decide)⟩
        · simp [h]
          apply w_pick (by have := List.length_pos_iff.mpr h; simp; omega) (by simp; omega)
          intro q a b hq
          obtain ⟨z, hz, rfl⟩ := List.mem_map.mp hq
          have hz2 := hum z hz
          simp [hpsl]
          exact ⟨_, _, _, _, ps ++ [(x, y, z)], by rw [List.map_append]; rfl, fin z hz2.1 (by omega)⟩
      · rintro S ⟨a, b, t8, t9, ps, rfl, hp1, hp2⟩
        simp
        exact ⟨_, _, _, _, _, ps, rfl, hp1, by simp; omega⟩
    · rintro S ⟨a, b, t7, t8, t9, ps, rfl, hp1, hp2⟩
      simp
      exact hQ kind ss ps _ _ ⟨kk, fun x hx => by have := sm x hx; omega, sl, hp1, by omega⟩
end PK88

set_option Elab.async false
set_option linter.all false
set_option maxRecDepth 100000
set_option maxHeartbeats 4000000
namespace PK88
open PySem DL
variable {rows : List (List Int)} {n : Nat} {kind : Str} {ns : List Int} {ps : List (Int × Int × Int)}
theorem Base.K (v : Base kind ns ps) : okK (.str kind) = true := by rcases v.k with rfl | rfl <;> decide +kernel
theorem Base.B (v : Base kind ns ps) : (ns.map PyData.int).all okB = true := by
  rw [List.all_map, List.all_eq_true]
  intro x hx
  have := v.n1 x hx
  simp [okB]; omega
theorem okQ_tr {p : Int × Int × Int} (h : (0 ≤ p.1 ∧ p.1 ≤ 11) ∧ (0 ≤ p.2.1 ∧ p.2.1 ≤ 11) ∧ 0 ≤ p.2.2 ∧ p.2.2 ≤ 11) : okQ (trD p) = true := by
  simp [trD, okQ, okA]; omega
theorem Base.Q (v : Base kind ns ps) : (ps.map trD).all okQ = true := by
  rw [List.all_map, List.all_eq_true]
  exact fun x hx => okQ_tr (v.p1 x hx)
theorem okS_t {xs : List PyData} (h : xs.all okB = true) (h2 : xs.length ≤ 30) : okS (.tuple xs) = true := by simp only [okS, h, decide_eq_true h2, Bool.and_self]
theorem okS_l {xs : List PyData} (h : xs.all okB = true) (h2 : xs.length ≤ 30) : okS (.list xs) = true := by simp only [okS, h, decide_eq_true h2, Bool.and_self]
theorem okP_t {xs : List PyData} (h : xs.all okQ = true) (h2 : xs.length ≤ 200) : okP (.tuple xs) = true := by simp only [okP, h, decide_eq_true h2, Bool.and_self]
theorem okP_l {xs : List PyData} (h : xs.all okQ = true) (h2 : xs.length ≤ 200) : okP (.list xs) = true := by simp only [okP, h, decide_eq_true h2, Bool.and_self]
theorem okV3 {k s p : PyData} (h1 : okK k = true) (h2 : okS s = true) (h3 : okP p = true) : okV (.tuple [k, s, p]) = true := by simp only [okV, h1, h2, h3, Bool.and_self]
theorem okV3l {k s p : PyData} (h1 : okK k = true) (h2 : okS s = true) (h3 : okP p = true) : okV (.list [k, s, p]) = true := by simp only [okV, h1, h2, h3, Bool.and_self]
theorem okV2 {k s : PyData} (h1 : okK k = true) (h2 : okS s = true) : okV (.tuple [k, s]) = true := by simp only [okV, h1, h2, Bool.and_self]
theorem all_take {f : PyData → Bool} {xs : List PyData} (h : xs.all f = true) (k : Nat) : (xs.take k).all f = true := by
  rw [List.all_eq_true] at h ⊢; exact fun x hx => h x (List.mem_of_mem_take hx)
theorem all_drop {f : PyData → Bool} {xs : List PyData} (h : xs.all f = true) (k : Nat) : (xs.drop k).all f = true := by
  rw [List.all_eq_true] at h ⊢; exact fun x hx => h x (List.mem_of_mem_drop hx)
theorem all_app {f : PyData → Bool} {xs ys : List PyData} (h : xs.all f = true) (g : ys.all f = true) : (xs ++ ys).all f = true := by
  rw [List.all_append, h, g]; rfl
theorem all_rev {f : PyData → Bool} {xs : List PyData} (h : xs.all f = true) : xs.reverse.all f = true := by
  rw [List.all_reverse]; exact h
theorem add_t (xs ys : List PyData) (h : xs.length + ys.length ≤ 100000) : dAdd (.tuple xs) (.tuple ys) = some (.tuple (xs ++ ys)) := by
  show (if _ then _ else _) = _
  rw [if_pos h]
theorem add_l (xs ys : List PyData) (h : xs.length + ys.length ≤ 100000) : dAdd (.list xs) (.list ys) = some (.list (xs ++ ys)) := by
  show (if _ then _ else _) = _
  rw [if_pos h]
theorem w_bent (v : Base kind ns ps) {a b : Int} {Q : SD × List SD → Prop} (hQ : ∀ x a' b', okV x = true → Q (.d x, [P a' b', .d (spD kind ns ps)])) :
    OV (m__law_bent [P a b, .d (spD kind ns ps)]) Q := by
  have hK := v.K
  have hB := v.B
  have hq := v.Q
  have n2 := v.n2
  have p2 := v.p2
  obtain ⟨X, hX⟩ : ∃ X, X = ns.map PyData.int := ⟨_, rfl⟩
  obtain ⟨Y, hY⟩ : ∃ Y, Y = ps.map trD := ⟨_, rfl⟩
  have hXl : X.length ≤ 12 := by rw [hX]; simpa using n2
  have hYl : Y.length ≤ 144 := by rw [hY]; simpa using p2
  have hS : okS (.tuple X) = true := okS_t (by rw [hX]; exact hB) (by omega)
  have hP : okP (.tuple Y) = true := okP_t (by rw [hY]; exact hq) (by omega)
  have hv : spD kind ns ps = .tuple [.str kind, .tuple X, .tuple Y] := by rw [hX, hY]; rfl
  rw [← hX] at hB
  rw [← hY] at hq
  rw [hv] at hQ ⊢
  have hYt : ∀ y ∈ Y, ∃ x1 x2 x3 : Int, y = .tuple [.int x1, .int x2, .int x3] ∧ (0 ≤ x1 ∧ x1 ≤ 11) ∧ (0 ≤ x2 ∧ x2 ≤ 11) ∧ 0 ≤ x3 ∧ x3 ≤ 11 := by
    intro y hy
    rw [hY] at hy
    obtain ⟨p, hp, rfl⟩ := List.mem_map.mp hy
    exact ⟨_, _, _, rfl, v.p1 p hp⟩
  clear hv hX hY
  obtain ⟨D, hD⟩ : ∃ D, D = X.drop 1 := ⟨_, rfl⟩
  obtain ⟨T, hT⟩ : ∃ T, T = X.take 1 := ⟨_, rfl⟩
  have hDl : D.length ≤ 12 := by rw [hD]; simp; omega
  have hTl : T.length ≤ 1 := by rw [hT]; simp; omega
  have hD1 : D.all okB = true := by rw [hD]; exact all_drop hB 1
  have hT1 : T.all okB = true := by rw [hT]; exact all_take hB 1
  have k1 : cutD X (some 1) none = D := by rw [cutI_from (by decide), hD]; rfl
  have k2 : cutD X none (some 1) = T := by rw [cutI_to (by decide), hT]; rfl
  have k3 : cutD [PyData.str kind, .tuple X, .tuple Y] none (some 2) = [.str kind, .tuple X] := by rw [cutI_to (by decide)]; rfl
  have a1 := add_t X [.int 11] (by simp; omega)
  have a2 := add_t X T (by omega)
  have a3 := add_t [.bool true] D (by simp; omega)
  clear hD hT
  rw [m__law_bent, OV_defn]
  simp
  by_cases hY0 : Y = []
  · subst hY0
    simp
    apply w_pick (by simp) (by simp)
    intro x a b hx
    have hxK : okK x = true := by
      simp only [List.mem_cons, List.not_mem_nil, or_false] at hx
      rcases hx with rfl | rfl | rfl | rfl | rfl <;> decide +kernel
    clear hx
    simp [k1, k2, a1, a2, a3]
    apply w_pick (by simp) (by simp)
    intro y a b hy
    have hyS : okS y = true := by
      simp only [List.mem_cons, List.not_mem_nil, or_false] at hy
      rcases hy with rfl | rfl | rfl | rfl | rfl | rfl | rfl
      · exact okS_t hD1 (by omega)
      · exact okS_t (all_app hB (by decide)) (by simp; omega)
      · exact okS_t (all_rev hB) (by simp; omega)
      · exact okS_l hB (by omega)
      · exact okS_t (all_app hB hT1) (by simp; omega)
      · exact okS_t rfl (by simp)
      · exact okS_t (by simp only [List.all_cons, hD1, Bool.and_true]; rfl) (by simp; omega)
    clear hy
    simp [k3]
    apply w_pick (by simp) (by simp)
    intro z a b hz
    simp
    refine hQ _ _ _ ?_
    simp only [List.mem_append, List.mem_cons, List.not_mem_nil, or_false] at hz
    rcases hz with rfl | rfl | rfl | rfl | rfl | rfl | rfl
    · exact okV3 hxK hS hP
    · exact okV3 hK hyS hP
    · exact okV3 hK rfl hP
    · exact okV3 hK hS (okP_l hq (by simp))
    · exact okV2 hK hS
    · exact okV3l hK hS hP
    · rfl
  · simp [hY0]
    apply w_draw (by decide) (by decide)
    intro r a b hr1 hr2
    by_cases hr : r = 0
    · simp [hr]
      apply w_pick (by simp) (by simp)
      intro x a b hx
      have hxK : okK x = true := by
        simp only [List.mem_cons, List.not_mem_nil, or_false] at hx
        rcases hx with rfl | rfl | rfl | rfl | rfl <;> decide +kernel
      clear hx
      simp [k1, k2, a1, a2, a3]
      apply w_pick (by simp) (by simp)
      intro y a b hy
      have hyS : okS y = true := by
        simp only [List.mem_cons, List.not_mem_nil, or_false] at hy
        rcases hy with rfl | rfl | rfl | rfl | rfl | rfl | rfl
        · exact okS_t hD1 (by omega)
        · exact okS_t (all_app hB (by decide)) (by simp; omega)
        · exact okS_t (all_rev hB) (by simp; omega)
        · exact okS_l hB (by omega)
        · exact okS_t (all_app hB hT1) (by simp; omega)
        · exact okS_t rfl (by simp)
        · exact okS_t (by simp only [List.all_cons, hD1, Bool.and_true]; rfl) (by simp; omega)
      clear hy
      simp [k3]
      apply w_pick (by simp) (by simp)
      intro z a b hz
      simp
      refine hQ _ _ _ ?_
      simp only [List.mem_append, List.mem_cons, List.not_mem_nil, or_false] at hz
      rcases hz with rfl | rfl | rfl | rfl | rfl | rfl | rfl
      · exact okV3 hxK hS hP
      · exact okV3 hK hyS hP
      · exact okV3 hK rfl hP
      · exact okV3 hK hS (okP_l hq (by omega))
      · exact okV2 hK hS
      · exact okV3l hK hS hP
      · rfl
    · simp [hr]
      have hYp : 0 < Y.length := List.length_pos_iff.mpr hY0
      apply w_draw (by omega) (by omega)
      intro t a b ht1 ht2
      have ht3 : t.toNat < Y.length := by omega
      obtain ⟨x1, x2, x3, hy, hx1, hx2, hx3⟩ := hYt _ (List.getElem_mem ht3)
      have hat : L2.atI Y t = some (.tuple [.int x1, .int x2, .int x3]) := by rw [atI_of ht1, List.getElem?_eq_getElem ht3, hy]
      obtain ⟨U, hU⟩ : ∃ U, U = Y.take t.toNat := ⟨_, rfl⟩
      obtain ⟨W, hW⟩ : ∃ W, W = Y.drop (t + 1).toNat := ⟨_, rfl⟩
      obtain ⟨Z, hZ⟩ : ∃ Z, Z = Y.take 1 := ⟨_, rfl⟩
      have hU1 : U.all okQ = true := by rw [hU]; exact all_take hq _
      have hW1 : W.all okQ = true := by rw [hW]; exact all_drop hq _
      have hZ1 : Z.all okQ = true := by rw [hZ]; exact all_take hq 1
      have hUl : U.length ≤ 144 := by rw [hU]; simp; omega
      have hWl : W.length ≤ 144 := by rw [hW]; simp; omega
      have hUW : U.length + W.length ≤ 144 := by rw [hU, hW]; simp; omega
      have hZl : Z.length ≤ 1 := by rw [hZ]; simp; omega
      have g1 : cutD Y none (some t) = U := by rw [cutI_to ht1, hU]
      have g2 : cutD Y (some (t + 1)) none = W := by rw [cutI_from (by omega), hW]
      have g3 : cutD Y none (some 1) = Z := by rw [cutI_to (by decide), hZ]; rfl
      clear hU hW hZ
      simp [hat]
      apply w_pick (by simp) (by simp)
      intro o a b ho
      have hoA : okA o = true := by
        simp only [List.mem_cons, List.not_mem_nil, or_false] at ho
        rcases ho with rfl | rfl | rfl | rfl | rfl | rfl | rfl | rfl | rfl <;> decide +kernel
      clear ho
      have i1 : okA (.int x1) = true := by simp [okA]; omega
      have i2 : okA (.int x2) = true := by simp [okA]; omega
      have i3 : okA (.int x3) = true := by simp [okA]; omega
      simp [g1, g2, g3]
      apply w_pick (by simp) (by simp)
      intro q a b hqm
      have hqo : okQ q = true := by
        simp only [List.mem_cons, List.not_mem_nil, or_false] at hqm
        rcases hqm with rfl | rfl | rfl | rfl | rfl | rfl <;> simp [okQ, i1, i2, i3, hoA]
      clear hqm
      have d1 := add_t U [q] (by simp; omega)
      have d2 := add_t (U ++ [q]) W (by simp; omega)
      have d3 := add_t U W (by omega)
      have d4 := add_t Y Z (by omega)
      simp only [unb1, List.headD] 
      simp [d1, -List.append_assoc, d2, g1, g2, g3, d3, d4]
      have pU : okP (.tuple (U ++ [q] ++ W)) = true := okP_t (all_app (all_app hU1 (by simp [hqo])) hW1) (by simp; omega)
      apply w_pick (by simp) (by simp)
      intro l a b hl
      have hlP : okP l = true := by
        simp only [List.mem_cons, List.not_mem_nil, or_false] at hl
        rcases hl with rfl | rfl | rfl | rfl
        · exact okP_t (all_app hU1 hW1) (by simp; omega)
        · exact okP_t (all_app hq hZ1) (by simp; omega)
        · exact okP_t (all_rev hq) (by simp; omega)
        · exact okP_t rfl (by simp)
      clear hl
      simp
      apply w_pick (by simp) (by simp)
      intro z a b hz
      have hzP : okP z = true := by
        simp only [List.mem_cons, List.not_mem_nil, or_false] at hz
        rcases hz with rfl | rfl | rfl
        · simpa using pU
        · simpa using pU
        · exact hlP
      simp
      exact hQ _ _ _ (okV3 hK hS hzP)
end PK88

set_option Elab.async false
set_option linter.all false
set_option maxRecDepth 100000
set_option maxHeartbeats 4000000
namespace PK88
open PySem DL
variable {s : Int} {th tr : List Int} {ti : List (List Int)} {rows : List (List Int)} {n : Nat}
theorem areNum_tI {k : Int} {ns : List Int} (h1 : 1 ≤ ns.length) (h2 : ns.length ≤ 12) (h : ∀ x ∈ ns, 0 ≤ x ∧ x < k) : areNum k (tI ns) = true := by
  show (decide (1 ≤ (ns.map PyData.int).length ∧ (ns.map PyData.int).length ≤ 12) && inAll k (ns.map .int)) = true
  have : inAll k (ns.map .int) = true := by
    unfold inAll
    rw [List.all_map, List.all_eq_true]
    intro x hx
    have := h x hx
    simp [isIn]; omega
  rw [this, List.length_map]
  simp [h1, h2]
theorem isLot_tI {k : Int} {ns : List Int} (h : LotI k ns) : isLot k (tI ns) = true := by
  show (inAll k (ns.map .int) && rising (pints (ns.map .int))) = true
  have : inAll k (ns.map .int) = true := by
    unfold inAll
    rw [List.all_map, List.all_eq_true]
    intro x hx
    have := h.2 x hx
    simp [isIn]; omega
  rw [this, pints_map, (rising_pw ns).mpr h.1]; rfl
theorem okTT_tI (ns : List Int) : okTT (tI ns) = true := by
  show (ns.map PyData.int).all okT = true
  rw [List.all_map, List.all_eq_true]
  intro x _; rfl
theorem areLifts_tT {k : Int} {ts : List (List Int)} (h1 : 1 ≤ ts.length) (h2 : ts.length ≤ 12) (h : ∀ t ∈ ts, LotI k t) : areLifts k (tT ts) = true := by
  show (decide (1 ≤ (ts.map tI).length ∧ (ts.map tI).length ≤ 12) && (ts.map tI).all (isLot k)) = true
  have : (ts.map tI).all (isLot k) = true := by
    rw [List.all_map, List.all_eq_true]
    intro x hx
    exact isLot_tI (h x hx)
  rw [this, List.length_map]
  simp [h1, h2]
theorem okL_tT {ts : List (List Int)} (h : ∀ t ∈ ts, t.length ≤ 1000) : okL (tT ts) = true := by
  show ((ts.map tI).all fun x => okTT x && short 1000 x) = true
  rw [List.all_map, List.all_eq_true]
  intro x hx
  have h1 : short 1000 (tI x) = true := by
    show decide ((x.map PyData.int).length ≤ 1000) = true
    simpa using h x hx
  simp [okTT_tI, h1]
theorem IsLm.value (v : IsLm s th ti tr) : m_is_loom_value [.d (lmD s th ti tr)] = some (.d (.bool true), [.d (lmD s th ti tr)]) := by
  apply OV.eq
  have a1 := areNum_tI v.th1 v.th2 v.thr
  have a2 := areLifts_tT v.ti1 v.ti2 v.tir
  have a3 := areNum_tI v.tr1 v.tr2 v.trr
  have s1 := v.s1
  have s2 := v.s2
  have a4 : okL (tT ti) = true := okL_tT fun t ht => by have := lot_lenZ (v.tir t ht) (by omega); omega
  have a5 : isTup 5 (lmD s th ti tr) = true := rfl
  have a6 : okT (lmD s th ti tr) = true := rfl
  have a7 : isIn 1 12 (.int s) = true := by simp [isIn, s1, s2]
  rw [m_is_loom_value, OV_defn]
  simp [a1, a2, a3, a4, a5, a6, a7, okTT_tI, tgIs]
theorem not_loom {x : PyData} (h : okT x = true) (h5 : isTup 5 x = false) : m_is_loom_value [.d x] = some (.d (.bool false), [.d x]) := by
  apply OV.eq
  rw [m_is_loom_value, OV_defn]
  simp [h, h5]
theorem e_is_loom {x : PyData} {b : Bool} (h : m_is_loom_value [.d x] = some (.d (.bool b), [.d x])) : m_is_loom [.d x] = some (.d (.bool b), [.d x]) := by
  apply OV.eq
  rw [m_is_loom, OV_defn]
  simp [h]
theorem e_within_no (v : IsDr rows n) {i j : Int} (h1 : 1 ≤ i) (h2 : i ≤ 12) (h3 : 1 ≤ j) (h4 : j ≤ 12) {x : PyData} (hx : m_is_loom_value [.d x] = some (.d (.bool false), [.d x])) :
    m_is_loom_within [.d (drD rows), .d (.int i), .d (.int j), .d x] = some (.d (.bool false), [.d (drD rows), .d (.int i), .d (.int j), .d x]) := by
  apply OV.eq
  rw [m_is_loom_within, OV_defn]
  simp [e_want_numbers v h1 h2 h3 h4, hx]
theorem e_within_yes (v : IsDr rows n) {i j : Int} (h1 : 1 ≤ i) (h2 : i ≤ 12) (h3 : 1 ≤ j) (h4 : j ≤ 12) (w : IsLm s th ti tr) :
    m_is_loom_within [.d (drD rows), .d (.int i), .d (.int j), .d (lmD s th ti tr)] = some (.d (.bool (decide (s ≤ i) && (decide ((ti.length : Int) ≤ j) && decide (wovenOf th ti tr = rows)))), [.d (drD rows), .d (.int i), .d (.int j), .d (lmD s th ti tr)]) := by
  apply OV.eq
  rw [m_is_loom_within, OV_defn]
  simp [e_want_numbers v h1 h2 h3 h4, w.value]
  by_cases c1 : s ≤ i
  · have c1' : ¬ i < s := by omega
    by_cases c2 : (ti.length : Int) ≤ j
    · have c2' : ¬ j < (ti.length : Int) := by omega
      simp [c1, c2, c1', c2', e_woven_by w]
    · have c2' : j < (ti.length : Int) := by omega
      simp [c1, c2, c1', c2']
  · have c1' : i < s := by omega
    simp [c1, c1']
/-- what is asked of: looms, and what is none by its kind or length -/
def LV (x : PyData) : Prop := (∃ s th ti tr, IsLm s th ti tr ∧ x = lmD s th ti tr) ∨ (okT x = true ∧ isTup 5 x = false)
theorem LV.of (v : IsLm s th ti tr) : LV (lmD s th ti tr) := .inl ⟨_, _, _, _, v, rfl⟩
theorem LV.no {x : PyData} (h : okT x = true) (h5 : isTup 5 x = false) : LV x := .inr ⟨h, h5⟩
end PK88

set_option Elab.async false
set_option linter.all false
set_option maxRecDepth 100000
set_option maxHeartbeats 4000000
namespace PK88
open PySem DL
variable {s : Int} {th tr : List Int} {ti : List (List Int)} {rows : List (List Int)} {n : Nat}
theorem sort_lot {k x : Int} {l : List Int} (h : LotI k l) (hx : 0 ≤ x ∧ x < k) (hn : x ∉ l) : LotI k (sortI (l ++ [x])) := by
  have hp := sortI_perm (l ++ [x])
  refine ⟨?_, fun y hy => ?_⟩
  · have hs := sortI_sorted (l ++ [x])
    have hd : (sortI (l ++ [x])).Nodup := by
      rw [hp.nodup_iff, List.nodup_append]
      refine ⟨h.1.imp fun h => by omega, by simp, fun a ha b hb => ?_⟩
      rw [List.mem_singleton.mp hb]
      exact fun q => hn (q ▸ ha)
    exact (hs.and hd).imp fun ⟨h1, h2⟩ => by omega
  · have := hp.mem_iff.mp hy
    rcases List.mem_append.mp this with h' | h'
    · exact h.2 y h'
    · rw [List.mem_singleton.mp h']; exact hx
theorem filter_lot {k : Int} {l : List Int} (h : LotI k l) (f : Int → Bool) : LotI k (l.filter f) := ⟨h.1.filter _, fun y hy => h.2 y (List.mem_filter.mp hy).1⟩
theorem list_lm : dListL [lmD s th ti tr] = some [.str "loom", .int s, tI th, tT ti, tI tr] := rfl
theorem cut_lm (lo hi : Option Int) : dCut (lmD s th ti tr) lo hi = some (.tuple (cutD [.str "loom", .int s, tI th, tT ti, tI tr] lo hi)) := rfl
theorem w_looms (v : IsLm s th ti tr) (hd : IsDr rows n) (hs : s ≤ 4) (ht : ti.length ≤ 4) {a b : Int} {Q : SD × List SD → Prop} (hQ : ∀ vs a' b', vs.length ≤ 12 → (∀ x ∈ vs, LV x) → Q (.d (.list vs), [P a' b', .d (lmD s th ti tr), .d (drD rows)])) :
    OV (m__law_looms [P a b, .d (lmD s th ti tr), .d (drD rows)]) Q := by
  have s1 := v.s1
  have t1 := v.ti1
  have c1 : cutD [PyData.str "loom", .int s, tI th, tT ti, tI tr] none (some 3) = [.str "loom", .int s, tI th] := cut_to' _ 3 3 rfl
  have c2 : cutD [PyData.str "loom", .int s, tI th, tT ti, tI tr] (some 4) none = [tI tr] := cut_from' _ 4 4 rfl
  have c3 : cutD [PyData.str "loom", .int s, tI th, tT ti, tI tr] none (some 1) = [.str "loom"] := cut_to' _ 1 1 rfl
  have c4 : cutD [PyData.str "loom", .int s, tI th, tT ti, tI tr] (some 2) none = [tI th, tT ti, tI tr] := cut_from' _ 2 2 rfl
  have c5 : cutD [PyData.str "loom", .int s, tI th, tT ti, tI tr] none (some 4) = [.str "loom", .int s, tI th, tT ti] := cut_to' _ 4 4 rfl
  have c6 : cutD [PyData.str "loom", .int s, tI th, tT ti, tI tr] none (some 2) = [.str "loom", .int s] := cut_to' _ 2 2 rfl
  have c7 : cutD [PyData.str "loom", .int s, tI th, tT ti, tI tr] (some 3) none = [tT ti, tI tr] := cut_from' _ 3 3 rfl
  rw [m__law_looms, OV_defn]
  simp
  apply w_draw (by omega) (by omega)
  intro t a b t2 t3
  simp
  apply w_draw (by omega) (by omega)
  intro x a b x1 x2
  obtain ⟨l, hl⟩ : ∃ l, l = nth ti t := ⟨_, rfl⟩
  have hlot : LotI s l := by rw [hl]; exact v.tir _ (nth_mem t2 t3)
  have hll := lot_lenZ hlot (by omega)
  simp [atI_nth t2 t3, ← hl]
  have hA : (ti.take t.toNat).length = t.toNat := by simp; omega
  have hB : (ti.drop (t + 1).toNat).length + t.toNat + 1 = ti.length := by simp; omega
  obtain ⟨U, hU⟩ : ∃ U, U = ti.take t.toNat := ⟨_, rfl⟩
  obtain ⟨W, hW⟩ : ∃ W, W = ti.drop (t + 1).toNat := ⟨_, rfl⟩
  have hUm : ∀ y ∈ U, LotI s y := fun y hy => v.tir y (by rw [hU] at hy; exact List.mem_of_mem_take hy)
  have hWm : ∀ y ∈ W, LotI s y := fun y hy => v.tir y (by rw [hW] at hy; exact List.mem_of_mem_drop hy)
  rw [← hU] at hA
  rw [← hW] at hB
  have g1 : dCut (tT ti) none (some t) = some (tT U) := by rw [cut_tT_to _ t2, hU]
  have g2 : dCut (tT ti) (some (t + 1)) none = some (tT W) := by rw [cut_tT_from _ (by omega), hW]
  have u0 : ∀ l2 : List Int, PyData.tuple [tI l2] = tT [l2] := fun l2 => rfl
  have u1 : ∀ l2 : List Int, dAdd (tT U) (tT [l2]) = some (tT (U ++ [l2])) := fun l2 => add_tT _ _ (by simp; omega)
  have u2 : ∀ l2 : List Int, dAdd (tT (U ++ [l2])) (tT W) = some (tT (U ++ [l2] ++ W)) := fun l2 => add_tT _ _ (by simp; omega)
  have u3 : dAdd (tT ti) (tT [l]) = some (tT (ti ++ [l])) := add_tT _ _ (by simp; omega)
  have u4 : dAdd (tI l) (.tuple [.int x]) = some (tI (l ++ [x])) := add_tI l [x] (by simp; omega)
  have fin : ∀ l2 : List Int, LotI s l2 → ∀ y ∈ [lmD s th ti tr, toldD rows n, lmD s th (U ++ [l2] ++ W) tr, .list [.str "loom", .int s, tI th, tT ti, tI tr], .none, drD rows, lmD (s + 1) th ti tr, .tuple [.str "loom", .int s, tI th, tT ti], .tuple [], .int 0, lmD s th (ti ++ [l]) tr, lmD s th.reverse ti tr], LV y := by
    intro l2 h2 y hy
    simp only [List.mem_cons, List.not_mem_nil, or_false] at hy
    rcases hy with rfl | rfl | rfl | rfl | rfl | rfl | rfl | rfl | rfl | rfl | rfl | rfl
    · exact .of v
    · exact .of (told_is hd)
    · have hn : (U ++ [l2] ++ W).length = ti.length := by simp; omega
      refine .of ⟨v.s1, v.s2, v.th1, v.th2, v.thr, by rw [hn]; exact v.ti1, by rw [hn]; exact v.ti2, fun y hy => ?_, v.tr1, v.tr2, by rw [hn]; exact v.trr⟩
      simp only [List.mem_append, List.mem_singleton] at hy
      rcases hy with (hy | rfl) | hy
      · exact hUm y hy
      · exact h2
      · exact hWm y hy
    · exact .no rfl rfl
    · exact .no rfl rfl
    · exact .no rfl rfl
    · exact .of ⟨by omega, by omega, v.th1, v.th2, fun y hy => by have := v.thr y hy; omega, v.ti1, v.ti2, fun y hy => ⟨(v.tir y hy).1, fun z hz => by have := (v.tir y hy).2 z hz; omega⟩, v.tr1, v.tr2, v.trr⟩
    · exact .no rfl rfl
    · exact .no rfl rfl
    · exact .no rfl rfl
    · refine .of ⟨v.s1, v.s2, v.th1, v.th2, v.thr, by simp, by simp; omega, fun y hy => ?_, v.tr1, v.tr2, fun y hy => by have := v.trr y hy; simp; omega⟩
      simp only [List.mem_append, List.mem_singleton] at hy
      rcases hy with hy | rfl
      · exact v.tir y hy
      · exact hlot
    · exact .of ⟨v.s1, v.s2, by simpa using v.th1, by simpa using v.th2, fun y hy => v.thr y (by simpa using hy), v.ti1, v.ti2, v.tir, v.tr1, v.tr2, v.trr⟩
  by_cases hx : x ∈ l
  · simp [hx]
    refine ⟨by omega, ?_⟩
    apply WLc.fmapOf PyData.int (fun y => if y = x then none else some (.int y)) (fun y hy => by
      by_cases h : y = x <;> simp [h])
    have hfm : l.filterMap (fun y => if y = x then none else some (PyData.int y)) = (l.filter fun y => !decide (y = x)).map .int := by
      generalize l = l
      induction l with
      | nil => rfl
      | cons p l ih => by_cases h : p = x <;> simp [h, ih]
    rw [hfm]
    have h2 := filter_lot hlot (fun y => !decide (y = x))
    obtain ⟨l2, hl2⟩ : ∃ l2, l2 = l.filter fun y => !decide (y = x) := ⟨_, rfl⟩
    rw [← hl2] at h2 ⊢
    have hf := fin l2 h2
    clear fin hl2
    simp [cut_lm, c1, c2, c3, c4, c5, c6, c7, e_loom_of hd, g1, g2, u0 l2, u0 l, u1, u2, u3, list_lm, -List.append_assoc]
    exact hQ _ _ _ (by simp) hf
  · simp [hx, u4]
    have h2 := sort_lot hlot ⟨x1, x2⟩ hx
    obtain ⟨l2, hl2⟩ : ∃ l2, l2 = sortI (l ++ [x]) := ⟨_, rfl⟩
    rw [← hl2] at h2 ⊢
    have hf := fin l2 h2
    clear fin hl2
    simp [cut_lm, c1, c2, c3, c4, c5, c6, c7, e_loom_of hd, g1, g2, u0 l2, u0 l, u1, u2, u3, list_lm, -List.append_assoc]
    exact hQ _ _ _ (by simp) hf
end PK88

set_option Elab.async false
set_option linter.all false
set_option maxRecDepth 100000
set_option maxHeartbeats 4000000
namespace PK88
open PySem DL
variable {s : Int} {th tr : List Int} {ti : List (List Int)} {rows : List (List Int)} {n : Nat}
theorem base_okV {kind : Str} {ns : List Int} {ps : List (Int × Int × Int)} (v : Base kind ns ps) : okV (spD kind ns ps) = true :=
  okV3 v.K (okS_t v.B (by have := v.n2; simp; omega)) (okP_t v.Q (by have := v.p2; simp; omega))
theorem base_of {L : List (List Int)} {m : Nat} (v : LN L m) {kind : Str} (hk : kind = "warp" ∨ kind = "weft") (k : Nat) : Base kind (someOf L k) (placesOf L k) := by
  have l2 := v.l2
  have m2 := v.m2
  have sl := someOf_len (L := L) k
  refine ⟨hk, fun x hx => by have := someOf_mem hx; omega, by omega, fun p hp => ?_, ?_⟩
  · obtain ⟨q, hq, rfl⟩ := List.mem_map.mp hp
    obtain ⟨a, b⟩ := q
    obtain ⟨h1, h2, h3⟩ := someOf_ne hq
    have e1 := v.len _ (nth_mem h1.1 h1.2)
    have e2 := v.len _ (nth_mem h2.1 h2.2)
    have := nIx_lt (unl_spec (e1.trans e2.symm) h3)
    simp at this
    simp only [unl]
    refine ⟨by omega, by omega, by omega, ?_⟩
    have h4 : nIx false (List.map (fun p : Int × Int => decide (p.1 = p.2)) ((nth L a).zip (nth L b))) < m := by omega
    omega
  · have := prs_len (someOf L k)
    have h2 : (someOf L k).length * (someOf L k).length ≤ 12 * 12 := Nat.mul_le_mul (by omega) (by omega)
    simp [placesOf]; omega
theorem spread_base (v : IsDr rows n) (i j : Int) : spreadOf rows n i j = .none ∨ ∃ kind ns ps, Base kind ns ps ∧ spreadOf rows n i j = spD kind ns ps := by
  unfold spreadOf
  split
  · exact .inr ⟨_, _, _, base_of (LN.of v.cols) (.inl rfl) _, rfl⟩
  · split
    · exact .inr ⟨_, _, _, base_of (LN.of v) (.inr rfl) _, rfl⟩
    · exact .inl rfl
theorem repr_bb (b : Bool) : dRepr [.list [.bool b, .bool b]] = some (.str (PyData.list [.bool b, .bool b]).shown) := by
  apply dRepr_ok
  cases b <;> decide +kernel
theorem w_right (a b : Int) : OV (m__law_right [P a b]) fun q => ∃ a' b', q = (.d (.bool true), [P a' b']) := by
  rw [m__law_right, OV_defn]
  simp
  apply w_loom (by decide) (by decide)
  intro s th ti tr a b v hs hth hti htr
  have hd := woven_dr v
  obtain ⟨rows, hrows⟩ : ∃ rows, rows = wovenOf th ti tr := ⟨_, rfl⟩
  have hw := e_law_woven v
  rw [← hrows] at hd hw
  obtain ⟨n, hn⟩ : ∃ n, n = th.length := ⟨_, rfl⟩
  rw [← hn] at hd hth
  have f1 := firsts_len (colsOf n rows)
  have f2 := firsts_len rows
  have f3 : rows.length = tr.length := by rw [hrows]; simp [wovenOf]
  simp only [colsOf_len] at f1
  simp [hw, e_fewest_shafts hd, e_fewest_treadles hd]
  obtain ⟨M, hM⟩ : ∃ M : Int, M = (firsts (colsOf n rows)).length := ⟨_, rfl⟩
  obtain ⟨N, hN⟩ : ∃ N : Int, N = (firsts rows).length := ⟨_, rfl⟩
  rw [← hM, ← hN]
  have hM1 : 0 ≤ M ∧ M ≤ 6 := by omega
  have hN1 : 0 ≤ N ∧ N ≤ 6 := by omega
  rw [rngI_int (show (0 : Int) ≤ 3 by decide) (by decide)]
  simp
  apply WFor.invOfA PyData.int (fun pre S => ∃ a b t5 t6 t7 t8 t9 t10 t11 t12 t13 t14 t15, S = [P a b, .d (lmD s th ti tr), .d (drD rows), .d (.int M), .d (.int N), t5, t6, t7, t8, t9, t10, t11, t12, t13, t14, t15, .un]) ⟨_, _, _, _, _, _, _, _, _, _, _, _, _, rfl⟩
  · rintro pre x post S he ⟨a, b, t5, t6, t7, t8, t9, t10, t11, t12, t13, t14, t15, rfl⟩
    simp
    apply w_draw (by decide) (by decide)
    intro r a b r1 r2
    obtain ⟨SH, hSH⟩ : ∃ SH : Int, SH = if M + r - 2 > 1 then M + r - 2 else 1 := ⟨_, rfl⟩
    have sh1 : 1 ≤ SH ∧ SH ≤ 12 := by rw [hSH]; split <;> omega
    have m1 : dMax [.int 1, .int (M + r - 2)] = some (.int SH) := by rw [hSH]; rfl
    simp [-dMax_ii, m1]
    clear m1 hSH
    apply w_draw (by decide) (by decide)
    intro r' a b r1' r2'
    obtain ⟨TR, hTR⟩ : ∃ TR : Int, TR = if N + r' - 2 > 1 then N + r' - 2 else 1 := ⟨_, rfl⟩
    have tr1 : 1 ≤ TR ∧ TR ≤ 12 := by rw [hTR]; split <;> omega
    have m2 : dMax [.int 1, .int (N + r' - 2)] = some (.int TR) := by rw [hTR]; rfl
    have esp := e_spread hd sh1.1 sh1.2 tr1.1 tr1.2
    obtain ⟨T, hT⟩ : ∃ T, T = spreadOf rows n SH TR := ⟨_, rfl⟩
    have hbase := spread_base hd SH TR
    rw [← hT] at hbase esp
    simp [-dMax_ii, m2, esp]
    clear m2 hTR
    have okT' : okV T = true := by
      rcases hbase with h | ⟨kb, nb, pb, vb, h⟩
      · rw [h]; rfl
      · rw [h]; exact base_okV vb
    rcases hbase with h | ⟨kb, nb, pb, vb, h⟩
    case' inl =>
      have hisn : isNoneD T = true := by rw [h]; rfl
      simp [hisn]
      apply w_drawn hd (by omega) (by omega)
      intro kb nb pb a b vb
      simp
    case' inr =>
      have hisn : isNoneD T = false := by rw [h]; rfl
      simp [hisn]
      try rw [h]
    all_goals
      have okb := base_okV vb
      apply w_drawn hd (by omega) (by omega)
      intro kl nl pl a b vl
      have okl := base_okV vl
      simp
      apply w_drawn hd (by omega) (by omega)
      intro kd nd pd a b vd
      have okd := base_okV vd
      simp [rngI_int (show (0 : Int) ≤ 10 by decide) (by decide)]
      apply WLc.potE (fun x : PyData => x) (fun x => okV x = true) (fun x hx a b => by
        simp
        apply w_bent vb
        intro y a b hy
        simp
        exact hy)
      intro ys a b hys1 hys2
      simp at hys1
      simp [rngI_int (show (0 : Int) ≤ 4 by decide) (by decide)]
      refine ⟨by omega, ?_⟩
      apply WLc.potE (fun x : PyData => x) (fun x => okV x = true) (fun x hx a b => by
        simp
        apply w_bent vl
        intro y a b hy
        simp
        exact hy)
      intro zs a b hzs1 hzs2
      simp at hzs1
      simp [-w_forCons]
      refine ⟨by omega, ?_⟩
      apply WFor.invA (fun pre S => ∃ t8 t9 t10 t11 t12 t13 t14 t15, S = [P a b, .d (lmD s th ti tr), .d (drD rows), .d (.int M), .d (.int N), .d (.int x), .d (.int SH), .d (.int TR), t8, t9, t10, t11, t12, t13, t14, t15, .un]) ⟨_, _, _, _, _, _, _, _, rfl⟩
      · rintro pre2 y post2 S he2 ⟨t8, t9, t10, t11, t12, t13, t14, t15, rfl⟩
        have hym : y ∈ pre2 ++ y :: post2 := by simp
        rw [← he2] at hym
        have hyV : okV y = true := by
          simp only [List.mem_cons, List.mem_append] at hym
          rcases hym with rfl | rfl | rfl | rfl | rfl | rfl | rfl | rfl | rfl | hym | hym
          all_goals first | assumption | rfl | exact hys2 _ hym | exact hzs2 _ hym
        have g1 := e_law_is_spread hd (i := SH) (j := TR) hyV
        have g2 := e_is_spread hd sh1.1 sh1.2 tr1.1 tr1.2 hyV
        have g3 := dRepr_ok (okV_repr hyV)
        have g4 := repr_bb (spOk rows n SH TR y)
        simp [g1, g2, g3, g4, perm]
        exact ⟨_, _, _, _, _, _, _, _, rfl⟩
      · rintro S ⟨t8, t9, t10, t11, t12, t13, t14, t15, rfl⟩
        simp
        apply w_looms v hd hs (by omega)
        intro vs a b hvs1 hvs2
        simp
        apply WFor.invA (fun pre S => ∃ t8 t9 t10 t11 t12 t13 t14 t15, S = [P a b, .d (lmD s th ti tr), .d (drD rows), .d (.int M), .d (.int N), .d (.int x), .d (.int SH), .d (.int TR), t8, t9, t10, t11, t12, t13, t14, t15, .un]) ⟨_, _, _, _, _, _, _, _, rfl⟩
        · rintro pre2 y post2 S he2 ⟨t8, t9, t10, t11, t12, t13, t14, t15, rfl⟩
          have hyV : LV y := hvs2 y (by rw [he2]; simp)
          rcases hyV with ⟨s', th', ti', tr', v', rfl⟩ | ⟨ho, h5⟩
          · have g1 := e_is_loom v'.value
            have g2 := e_within_yes hd sh1.1 sh1.2 tr1.1 tr1.2 v'
            have g3 := e_law_woven v'
            obtain ⟨B, hB⟩ : ∃ B, B = (decide (s' ≤ SH) && (decide ((ti'.length : Int) ≤ TR) && decide (wovenOf th' ti' tr' = rows))) := ⟨_, rfl⟩
            have g4 := repr_bb B
            rw [← hB] at g2
            by_cases b1 : s' ≤ SH
            · by_cases b2 : (ti'.length : Int) ≤ TR
              · have hB' : B = decide (wovenOf th' ti' tr' = rows) := by rw [hB]; simp [b1, b2]
                clear hB
                subst hB'
                simp [g1, g2, g3, g4, b1, b2, perm]
                exact ⟨_, _, _, _, _, _, _, _, rfl⟩
              · have hB' : B = false := by rw [hB]; simp [b2]
                subst hB'
                simp [g1, g2, g3, g4, b1, b2, perm]
                exact ⟨_, _, _, _, _, _, _, _, rfl⟩
            · have hB' : B = false := by rw [hB]; simp [b1]
              subst hB'
              simp [g1, g2, g3, g4, b1, perm]
              exact ⟨_, _, _, _, _, _, _, _, rfl⟩
          · have g0 := not_loom ho h5
            have g1 := e_is_loom g0
            have g2 := e_within_no hd sh1.1 sh1.2 tr1.1 tr1.2 g0
            have g4 := repr_bb false
            simp [g1, g2, g4, perm]
            exact ⟨_, _, _, _, _, _, _, _, rfl⟩
        · rintro S ⟨t8, t9, t10, t11, t12, t13, t14, t15, rfl⟩
          simp
          exact ⟨_, _, _, _, _, _, _, _, _, _, _, _, _, rfl⟩
  · rintro S ⟨a, b, t5, t6, t7, t8, t9, t10, t11, t12, t13, t14, t15, rfl⟩
    simp
theorem w_pot (ns : List Int) (k : Int) (h : 0 ≤ k) {Q : SD × List SD → Prop} (hQ : ∀ x y, Q (.own false [.int x, .int y], [.d (scrD ns), .d (.int k)])) : OV (m__law_pot [.d (scrD ns), .d (.int k)]) Q := by
  have p1 : L2.CPow 10 18 := ⟨by decide, by decide, by decide⟩
  have p2 : L2.CMul 1117 k := .inl ⟨by decide, by decide⟩
  have p3 : L2.CMul 9377 k := .inl ⟨by decide, by decide⟩
  have p4 (t : Int) : L2.CMul t 40014 := .inr ⟨by decide, by decide⟩
  have l1 : dLen [scrD ns] = some (.int ns.length) := by show some (PyData.int (ns.map PyData.int).length) = _; rw [List.length_map]
  have l2 : dIx (scrD ns) (.int k) = (L2.atI ns k).map .int := atI_map _ _ _
  rw [m__law_pot, OV_defn]
  by_cases hk : k < ns.length
  · simp [p1, p2, p3, p4, l1, l2, hk, atI_nth h hk]
    exact hQ _ _
  · simp [p1, p2, p3, p4, l1, hk]
    exact hQ _ _
theorem lawM : DL.LawM 63 m_law := fun ns hn => by
  apply OV.eq
  have l1 : dLen [scrD ns] = some (.int ns.length) := by show some (PyData.int (ns.map PyData.int).length) = _; rw [List.length_map]
  obtain ⟨N, hN1, hN2⟩ : ∃ N : Int, (0 ≤ N ∧ N ≤ 100) ∧ dMax [.int 1, .int (if (ns.length : Int) < 2 then (ns.length : Int) else 2)] = some (.int N) := by
    refine ⟨_, ?_, dMax_ii _ _⟩
    split <;> split <;> omega
  rw [m_law, OV_defn]
  simp [-dMax_ii, l1, hN2, rngI_int hN1.1 (show N ≤ 100000 by omega)]
  refine ⟨by omega, ?_⟩
  apply WLc.mapOf PyData.int (fun _ => .bool true) (fun k hk => by
    have := mem_upto.mp hk
    simp
    apply w_pot ns k this.1
    intro x y
    simp
    refine OV.use (w_right x y) ?_
    rintro q ⟨a, b, rfl⟩
    simp)
  have al := all_map (fun _ : Int => true) (upto N.toNat)
  simp [al]
end PK88

open PySem PySem.W PyProof.Rows
set_option maxHeartbeats 0 in
theorem PySem.Challenge.cw_onecloth_k88_any_value_as_loom_of_a_draf_holds : PySem.Challenge.rw_onecloth_k88_any_value_as_loom_of_a_draf.Holds := by
  w_on; o_law; k_head; (case hw => w_witness2)
  k_fill
  refine DL.walkG (l := PySem.Challenge.rw_onecloth_k88_any_value_as_loom_of_a_draf) (n := 63) (k := 9) (x := "script") (m := PK88.m_law) rfl (by decide) rfl ⟨rfl, by decide, by decide⟩ (fun w h Y => PySem.W.kIn_of Y) ?F PK88.lawM
  case F =>
    intro w mg fa h KX G hmg
    refine' PK88.all_mk KX G hmg ?a__law_draw ?l__law_draw ?d__law_draw ?k__law_draw ?a__law_loom ?l__law_loom ?d__law_loom ?k__law_loom ?a__law_woven ?l__law_woven ?d__law_woven ?k__law_woven ?a_is_tuple ?l_is_tuple ?d_is_tuple ?k_is_tuple ?a_is_headed ?l_is_headed ?d_is_headed ?k_is_headed ?a_is_integer ?l_is_integer ?d_is_integer ?k_is_integer ?a_is_within ?l_is_within ?d_is_within ?k_is_within ?a_are_rows_of ?l_are_rows_of ?d_are_rows_of ?k_are_rows_of ?a_is_draft_value ?l_is_draft_value ?d_is_draft_value ?k_is_draft_value ?a_want_draft ?l_want_draft ?d_want_draft ?k_want_draft ?a_by_first ?l_by_first ?d_by_first ?k_by_first ?a_many_warps ?l_many_warps ?d_many_warps ?k_many_warps ?a_columns_of ?l_columns_of ?d_columns_of ?k_columns_of ?a_lines_of ?l_lines_of ?d_lines_of ?k_lines_of ?a_many_unlike ?l_many_unlike ?d_many_unlike ?k_many_unlike ?a_fewest_shafts ?l_fewest_shafts ?d_fewest_shafts ?k_fewest_shafts ?a_fewest_treadles ?l_fewest_treadles ?d_fewest_treadles ?k_fewest_treadles ?a_want_most ?l_want_most ?d_want_most ?k_want_most ?a_want_numbers ?l_want_numbers ?d_want_numbers ?k_want_numbers ?a_first_unlike ?l_first_unlike ?d_first_unlike ?k_first_unlike ?a_pairs_of ?l_pairs_of ?d_pairs_of ?k_pairs_of ?a_like_lists ?l_like_lists ?d_like_lists ?k_like_lists ?a_spread_of ?l_spread_of ?d_spread_of ?k_spread_of ?a_spread ?l_spread ?d_spread ?k_spread ?a__law_pick ?l__law_pick ?d__law_pick ?k__law_pick ?a__law_mixed ?l__law_mixed ?d__law_mixed ?k__law_mixed ?a__law_drawn ?l__law_drawn ?d__law_drawn ?k__law_drawn ?a_numbered ?l_numbered ?d_numbered ?k_numbered ?a_told_loom ?l_told_loom ?d_told_loom ?k_told_loom ?a_loom_of ?l_loom_of ?d_loom_of ?k_loom_of ?a__law_looms ?l__law_looms ?d__law_looms ?k__law_looms ?a_are_rising ?l_are_rising ?d_are_rising ?k_are_rising ?a_is_lot_of ?l_is_lot_of ?d_is_lot_of ?k_is_lot_of ?a_is_place_of ?l_is_place_of ?d_is_place_of ?k_is_place_of ?a_is_spread ?l_is_spread ?d_is_spread ?k_is_spread ?a_plan_of ?l_plan_of ?d_plan_of ?k_plan_of ?a_woven_by ?l_woven_by ?d_woven_by ?k_woven_by ?a_are_numbers ?l_are_numbers ?d_are_numbers ?k_are_numbers ?a_are_lifts ?l_are_lifts ?d_are_lifts ?k_are_lifts ?a_is_loom_value ?l_is_loom_value ?d_is_loom_value ?k_is_loom_value ?a_is_loom_within ?l_is_loom_within ?d_is_loom_within ?k_is_loom_within ?a__law_bent ?l__law_bent ?d__law_bent ?k__law_bent ?a__law_is_whole ?l__law_is_whole ?d__law_is_whole ?k__law_is_whole ?a__law_is_spread ?l__law_is_spread ?d__law_is_spread ?k__law_is_spread ?a_is_loom ?l_is_loom ?d_is_loom ?k_is_loom ?a__law_right ?l__law_right ?d__law_right ?k__law_right ?a__law_pot ?l__law_pot ?d__law_pot ?k__law_pot ?a_law ?l_law ?d_law ?k_law ?z_abs ?z_all ?z_any ?z_bool ?z_divmod ?z_enumerate ?z_int ?z_isinstance ?z_len ?z_list ?z_max ?z_min ?z_range ?z_repr ?z_set ?z_sorted ?z_str ?z_tuple ?z_zip ?q_LOOM ?q_MOST ?q_WARP ?q_WEFT
    (case a__law_draw => k_is); (case l__law_draw => k_is); (case d__law_draw => k_is); (case k__law_draw => k_is); (case a__law_loom => k_is); (case l__law_loom => k_is); (case d__law_loom => k_is); (case k__law_loom => k_is)
    (case a__law_woven => k_is); (case l__law_woven => k_is); (case d__law_woven => k_is); (case k__law_woven => k_is); (case a_is_tuple => k_is); (case l_is_tuple => k_is); (case d_is_tuple => k_is); (case k_is_tuple => k_is)
    (case a_is_headed => k_is); (case l_is_headed => k_is); (case d_is_headed => k_is); (case k_is_headed => k_is); (case a_is_integer => k_is); (case l_is_integer => k_is); (case d_is_integer => k_is); (case k_is_integer => k_is)
    (case a_is_within => k_is); (case l_is_within => k_is); (case d_is_within => k_is); (case k_is_within => k_is); (case a_are_rows_of => k_is); (case l_are_rows_of => k_is); (case d_are_rows_of => k_is); (case k_are_rows_of => k_is)
    (case a_is_draft_value => k_is); (case l_is_draft_value => k_is); (case d_is_draft_value => k_is); (case k_is_draft_value => k_is); (case a_want_draft => k_is); (case l_want_draft => k_is); (case d_want_draft => k_is); (case k_want_draft => k_is)
    (case a_by_first => k_is); (case l_by_first => k_is); (case d_by_first => k_is); (case k_by_first => k_is); (case a_many_warps => k_is); (case l_many_warps => k_is); (case d_many_warps => k_is); (case k_many_warps => k_is)
    (case a_columns_of => k_is); (case l_columns_of => k_is); (case d_columns_of => k_is); (case k_columns_of => k_is); (case a_lines_of => k_is); (case l_lines_of => k_is); (case d_lines_of => k_is); (case k_lines_of => k_is)
    (case a_many_unlike => k_is); (case l_many_unlike => k_is); (case d_many_unlike => k_is); (case k_many_unlike => k_is); (case a_fewest_shafts => k_is); (case l_fewest_shafts => k_is); (case d_fewest_shafts => k_is); (case k_fewest_shafts => k_is)
    (case a_fewest_treadles => k_is); (case l_fewest_treadles => k_is); (case d_fewest_treadles => k_is); (case k_fewest_treadles => k_is); (case a_want_most => k_is); (case l_want_most => k_is); (case d_want_most => k_is); (case k_want_most => k_is)
    (case a_want_numbers => k_is); (case l_want_numbers => k_is); (case d_want_numbers => k_is); (case k_want_numbers => k_is); (case a_first_unlike => k_is); (case l_first_unlike => k_is); (case d_first_unlike => k_is); (case k_first_unlike => k_is)
    (case a_pairs_of => k_is); (case l_pairs_of => k_is); (case d_pairs_of => k_is); (case k_pairs_of => k_is); (case a_like_lists => k_is); (case l_like_lists => k_is); (case d_like_lists => k_is); (case k_like_lists => k_is)
    (case a_spread_of => k_is); (case l_spread_of => k_is); (case d_spread_of => k_is); (case k_spread_of => k_is); (case a_spread => k_is); (case l_spread => k_is); (case d_spread => k_is); (case k_spread => k_is)
    (case a__law_pick => k_is); (case l__law_pick => k_is); (case d__law_pick => k_is); (case k__law_pick => k_is); (case a__law_mixed => k_is); (case l__law_mixed => k_is); (case d__law_mixed => k_is); (case k__law_mixed => k_is)
    (case a__law_drawn => k_is); (case l__law_drawn => k_is); (case d__law_drawn => k_is); (case k__law_drawn => k_is); (case a_numbered => k_is); (case l_numbered => k_is); (case d_numbered => k_is); (case k_numbered => k_is)
    (case a_told_loom => k_is); (case l_told_loom => k_is); (case d_told_loom => k_is); (case k_told_loom => k_is); (case a_loom_of => k_is); (case l_loom_of => k_is); (case d_loom_of => k_is); (case k_loom_of => k_is)
    (case a__law_looms => k_is); (case l__law_looms => k_is); (case d__law_looms => k_is); (case k__law_looms => k_is); (case a_are_rising => k_is); (case l_are_rising => k_is); (case d_are_rising => k_is); (case k_are_rising => k_is)
    (case a_is_lot_of => k_is); (case l_is_lot_of => k_is); (case d_is_lot_of => k_is); (case k_is_lot_of => k_is); (case a_is_place_of => k_is); (case l_is_place_of => k_is); (case d_is_place_of => k_is); (case k_is_place_of => k_is)
    (case a_is_spread => k_is); (case l_is_spread => k_is); (case d_is_spread => k_is); (case k_is_spread => k_is); (case a_plan_of => k_is); (case l_plan_of => k_is); (case d_plan_of => k_is); (case k_plan_of => k_is)
    (case a_woven_by => k_is); (case l_woven_by => k_is); (case d_woven_by => k_is); (case k_woven_by => k_is); (case a_are_numbers => k_is); (case l_are_numbers => k_is); (case d_are_numbers => k_is); (case k_are_numbers => k_is)
    (case a_are_lifts => k_is); (case l_are_lifts => k_is); (case d_are_lifts => k_is); (case k_are_lifts => k_is); (case a_is_loom_value => k_is); (case l_is_loom_value => k_is); (case d_is_loom_value => k_is); (case k_is_loom_value => k_is)
    (case a_is_loom_within => k_is); (case l_is_loom_within => k_is); (case d_is_loom_within => k_is); (case k_is_loom_within => k_is); (case a__law_bent => k_is); (case l__law_bent => k_is); (case d__law_bent => k_is); (case k__law_bent => k_is)
    (case a__law_is_whole => k_is); (case l__law_is_whole => k_is); (case d__law_is_whole => k_is); (case k__law_is_whole => k_is); (case a__law_is_spread => k_is); (case l__law_is_spread => k_is); (case d__law_is_spread => k_is); (case k__law_is_spread => k_is)
    (case a_is_loom => k_is); (case l_is_loom => k_is); (case d_is_loom => k_is); (case k_is_loom => k_is); (case a__law_right => k_is); (case l__law_right => k_is); (case d__law_right => k_is); (case k__law_right => k_is)
    (case a__law_pot => k_is); (case l__law_pot => k_is); (case d__law_pot => k_is); (case k__law_pot => k_is); (case a_law => k_is); (case l_law => k_is); (case d_law => k_is); (case k_law => k_is)
    (case z_abs => k_is); (case z_all => k_is); (case z_any => k_is); (case z_bool => k_is); (case z_divmod => k_is); (case z_enumerate => k_is); (case z_int => k_is); (case z_isinstance => k_is)
    (case z_len => k_is); (case z_list => k_is); (case z_max => k_is); (case z_min => k_is); (case z_range => k_is); (case z_repr => k_is); (case z_set => k_is); (case z_sorted => k_is)
    (case z_str => k_is); (case z_tuple => k_is); (case z_zip => k_is); (case q_LOOM => k_is); (case q_MOST => k_is); (case q_WARP => k_is); (case q_WEFT => k_is)

