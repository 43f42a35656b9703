import PyProof.Rows.All
import Wide.All
import OpenK.AllK
import Wide.FinOn
import HandS.ForMost
import HandS.IsInst
import HandS.TupAny
import HandS.TupMul
import HandS.Style
import HandS.Deep
import HandS.Conv
import HandS.Zip
import HandS.RaiseMore
import HandS.SortInts
import KE.GoesEnum
import KE.GoesMore
import HandS.Strs
import HandS.SetFor
import HandS.Ends
import HandS.DictComp
import HandS.More
import PyProof.P3Eq
import PyProof.ReprLen
import PySem.Challenge.RW_onecloth_k81_any_value_as_full_picture_o
set_option Elab.async false
set_option linter.all false
set_option maxRecDepth 100000
set_option maxHeartbeats 4000000
/-! DL, part 1: data trees over the abstract heap, slots, frames. -/
namespace DL
open PySem PySem.Spec PyProof.Rows L2

/-! ### heaps -/
def Ex (H H' : Hp) : Prop := ∀ a o, H a = some o → H' a = some o
theorem Ex.refl (H : Hp) : Ex H H := fun _ _ h => h
theorem Ex.trans {H H1 H2 : Hp} (a : Ex H H1) (b : Ex H1 H2) : Ex H H2 := fun x o h => b x o (a x o h)
theorem Ex.live {H H' : Hp} (e : Ex H H') {b : Addr} (h : H b ≠ none) : H' b ≠ none := by
  cases q : H b with
  | none => exact absurd q h
  | some o => rw [e b o q]; simp
theorem Ex.free {H H' : Hp} (e : Ex H H') {b : Addr} (h : H' b = none) : H b = none := by
  cases q : H b with
  | none => rfl
  | some o => rw [e b o q] at h; cases h
theorem Ex.new {H : Hp} {p : Addr} {o : HO} (h : H p = none) : Ex H (upd H p o) := fun a u e => by
  rw [upd_ne (ne_of_none e h)]; exact e
theorem Ex.rd {H H' : Hp} {a : Addr} {u : HO} (e : Ex H H') (h : Rd H a u) : Rd H' a u := by
  rcases h with h | ⟨o, h⟩
  · exact .inl (e a _ h)
  · exact .inr ⟨o, e a _ h⟩
theorem Ex.sl {K : PySem.W.Frag} {H H' : Hp} {a : Addr} {xs : List V} (e : Ex H H') (h : SqL K H a xs) : SqL K H' a xs := by
  rcases h with h | h
  · exact .inl (e.rd h)
  · exact .inr h
theorem Ex.st {K : PySem.W.Frag} {H H' : Hp} {a : Addr} {xs : List V} (e : Ex H H') (h : SqT K H a xs) : SqT K H' a xs := by
  rcases h with h | h
  · exact .inl (e.rd h)
  · exact .inr h

/-! ### data at values -/
def keyD : Key → PyData
  | .inl i => .int i
  | .inr x => .str x
mutual
inductive Rp (K : PySem.W.Frag) (H : Hp) : V → PyData → Prop
  | non : Rp K H .non .none
  | bl (b : Bool) : Rp K H (.bl b) (.bool b)
  | int (i : Int) : Rp K H (.int i) (.int i)
  | str (x : Str) : Rp K H (.str x) (.str x)
  | lst {a : Addr} {xs : List V} {ds : List PyData} : H a = some (.lst xs) → RpAll K H xs ds → Rp K H (.ref a) (.list ds)
  | tup {a : Addr} {xs : List V} {ds : List PyData} : SqT K H a xs → RpAll K H xs ds → Rp K H (.ref a) (.tuple ds)
  | dic {a : Addr} {kvs : List (Key × V)} {ds : List (PyData × PyData)} : Rd H a (.dK kvs) → RpKV K H kvs ds → Rp K H (.ref a) (.dict ds)
  /-- the law's script: a list that is read alone -/
  | scr {a : Addr} {xs : List V} {ds : List PyData} : SqL K H a xs → RpAll K H xs ds → Rp K H (.ref a) (.dict [(.none, .list ds)])
inductive RpAll (K : PySem.W.Frag) (H : Hp) : List V → List PyData → Prop
  | nil : RpAll K H [] []
  | cons {v : V} {vs : List V} {d : PyData} {ds : List PyData} : Rp K H v d → RpAll K H vs ds → RpAll K H (v :: vs) (d :: ds)
inductive RpKV (K : PySem.W.Frag) (H : Hp) : List (Key × V) → List (PyData × PyData) → Prop
  | nil : RpKV K H [] []
  | cons {k : Key} {v : V} {r : List (Key × V)} {d : PyData} {ds : List (PyData × PyData)} : Rp K H v d → RpKV K H r ds → RpKV K H ((k, v) :: r) ((keyD k, d) :: ds)
end

section
variable {K : PySem.W.Frag} {H H' : Hp}
mutual
theorem Rp.mono (e : Ex H H') : ∀ {v : V} {d : PyData}, Rp K H v d → Rp K H' v d
  | _, _, .non => .non
  | _, _, .bl b => .bl b
  | _, _, .int i => .int i
  | _, _, .str x => .str x
  | _, _, .lst h r => .lst (e _ _ h) (RpAll.mono e r)
  | _, _, .tup h r => .tup (e.st h) (RpAll.mono e r)
  | _, _, .dic h r => .dic (e.rd h) (RpKV.mono e r)
  | _, _, .scr h r => .scr (e.sl h) (RpAll.mono e r)
theorem RpAll.mono (e : Ex H H') : ∀ {vs : List V} {ds : List PyData}, RpAll K H vs ds → RpAll K H' vs ds
  | _, _, .nil => .nil
  | _, _, .cons h r => .cons (Rp.mono e h) (RpAll.mono e r)
theorem RpKV.mono (e : Ex H H') : ∀ {vs : List (Key × V)} {ds : List (PyData × PyData)}, RpKV K H vs ds → RpKV K H' vs ds
  | _, _, .nil => .nil
  | _, _, .cons h r => .cons (Rp.mono e h) (RpKV.mono e r)
end
theorem RpAll.length : ∀ {vs : List V} {ds : List PyData}, RpAll K H vs ds → vs.length = ds.length
  | _, _, .nil => rfl
  | _, _, .cons _ r => by simp [r.length]
theorem RpAll.get : ∀ {vs : List V} {ds : List PyData} {i : Nat} {d : PyData}, RpAll K H vs ds → ds[i]? = some d → ∃ v, vs[i]? = some v ∧ Rp K H v d
  | _, _, _, _, .nil, e => by simp at e
  | _, _, 0, _, .cons r _, e => by simp at e; subst e; exact ⟨_, rfl, r⟩
  | _, _, i + 1, d, .cons _ t, e => by
    obtain ⟨v, h1, h2⟩ := RpAll.get (i := i) (d := d) t (by simpa using e)
    exact ⟨v, by simpa using h1, h2⟩
theorem RpAll.getV : ∀ {vs : List V} {ds : List PyData} {i : Nat} {v : V}, RpAll K H vs ds → vs[i]? = some v → ∃ d, ds[i]? = some d ∧ Rp K H v d
  | _, _, _, _, .nil, e => by simp at e
  | _, _, 0, _, .cons r _, e => by simp at e; subst e; exact ⟨_, rfl, r⟩
  | _, _, i + 1, v, .cons _ t, e => by
    obtain ⟨d, h1, h2⟩ := RpAll.getV (i := i) (v := v) t (by simpa using e)
    exact ⟨d, by simpa using h1, h2⟩
theorem RpAll.append : ∀ {vs ws : List V} {ds es : List PyData}, RpAll K H vs ds → RpAll K H ws es → RpAll K H (vs ++ ws) (ds ++ es)
  | _, _, _, _, .nil, s => s
  | _, _, _, _, .cons r t, s => .cons r (RpAll.append t s)
theorem RpAll.take : ∀ {vs : List V} {ds : List PyData} (n : Nat), RpAll K H vs ds → RpAll K H (vs.take n) (ds.take n)
  | _, _, 0, _ => .nil
  | _, _, _ + 1, .nil => .nil
  | _, _, n + 1, .cons r t => .cons r (RpAll.take n t)
theorem RpAll.drop : ∀ {vs : List V} {ds : List PyData} (n : Nat), RpAll K H vs ds → RpAll K H (vs.drop n) (ds.drop n)
  | _, _, 0, r => r
  | _, _, _ + 1, .nil => .nil
  | _, _, n + 1, .cons _ t => RpAll.drop n t
theorem RpAll.set {v : V} {d : PyData} (r : Rp K H v d) : ∀ {vs : List V} {ds : List PyData} (i : Nat), RpAll K H vs ds → RpAll K H (vs.set i v) (ds.set i d)
  | _, _, _, .nil => .nil
  | _, _, 0, .cons _ t => .cons r t
  | _, _, i + 1, .cons q t => .cons q (RpAll.set r i t)
theorem RpAll.reverse {vs : List V} {ds : List PyData} (h : RpAll K H vs ds) : RpAll K H vs.reverse ds.reverse := by
  induction vs generalizing ds with
  | nil => cases h; exact .nil
  | cons v vs ih =>
    cases h with
    | cons r t =>
      rw [List.reverse_cons, List.reverse_cons]
      exact (ih t).append (.cons r .nil)
theorem RpAll.eraseIdx : ∀ {vs : List V} {ds : List PyData} (i : Nat), RpAll K H vs ds → RpAll K H (vs.eraseIdx i) (ds.eraseIdx i)
  | _, _, _, .nil => .nil
  | _, _, 0, .cons _ t => t
  | _, _, i + 1, .cons q t => .cons q (RpAll.eraseIdx i t)
theorem RpAll.dropLast {vs : List V} {ds : List PyData} (h : RpAll K H vs ds) : RpAll K H vs.dropLast ds.dropLast := by
  rw [List.dropLast_eq_take, List.dropLast_eq_take, h.length]
  exact h.take _
theorem RpAll.flat {vs : List V} {ds : List PyData} (h : RpAll K H vs ds) : ∀ n : Nat, RpAll K H (List.replicate n vs).flatten (List.replicate n ds).flatten
  | 0 => .nil
  | n + 1 => by
    rw [List.replicate_succ, List.replicate_succ, List.flatten_cons, List.flatten_cons]
    exact h.append (h.flat n)
theorem RpAll.bools : ∀ {bs : List Bool} {vs : List V}, RpAll K H vs (bs.map .bool) → vs = bs.map V.bl
  | [], _, .nil => rfl
  | b :: bs, _, .cons r t => by cases r; rw [RpAll.bools t]; rfl
theorem RpAll.ints : ∀ {ns : List Int} {vs : List V}, RpAll K H vs (ns.map .int) → vs = ns.map V.int
  | [], _, .nil => rfl
  | b :: bs, _, .cons r t => by cases r; rw [RpAll.ints t]; rfl
theorem RpAll.strs : ∀ {ns : List Str} {vs : List V}, RpAll K H vs (ns.map .str) → vs = ns.map V.str
  | [], _, .nil => rfl
  | b :: bs, _, .cons r t => by cases r; rw [RpAll.strs t]; rfl
theorem RpAll.of_ints : ∀ (ns : List Int), RpAll K H (ns.map V.int) (ns.map .int)
  | [] => .nil
  | n :: ns => .cons (.int n) (RpAll.of_ints ns)
theorem RpAll.of_strs : ∀ (ns : List Str), RpAll K H (ns.map V.str) (ns.map .str)
  | [] => .nil
  | n :: ns => .cons (.str n) (RpAll.of_strs ns)
end

/-! ### slots -/
/-- what is told of a slot: nothing; it holds these data, that stand still; it holds a list of its own (b: borrowed from the caller) -/
inductive SD where
  | un
  | d (x : PyData)
  | own (b : Bool) (xs : List PyData)

/-- a frame's entry: the heap, what is known of it, the slots -/
structure Fr where
  H0 : Hp
  G0 : Hp
  Dl : List SD
  s0 : L2.St
/-- a is the address of a list that is borrowed -/
def Fr.B (F : Fr) (a : Addr) : Prop := ∃ (i : Nat) (b : Bool) (xs : List PyData), F.Dl[i]? = some (.own b xs) ∧ F.s0[i]? = some (some (.ref a))

/-- the slots S as they are told, the heap H, of which G is known and stands still -/
structure SR (K : PySem.W.Frag) (F : Fr) (S : List SD) (σ : L2.St) (H G : Hp) : Prop where
  len : σ.length = S.length
  g0 : Ex F.G0 G
  gh : Ex G H
  new : ∀ b, G b ≠ none → F.G0 b ≠ none ∨ F.H0 b = none
  keep : ∀ b o, F.H0 b = some o → ¬ F.B b → H b = some o
  live : ∀ b, F.H0 b ≠ none → H b ≠ none
  dat : ∀ (i : Nat) (x : PyData), S[i]? = some (.d x) → ∃ v, σ[i]? = some (some v) ∧ Rp K G v x
  own : ∀ (i : Nat) (b : Bool) (xs : List PyData), S[i]? = some (.own b xs) → ∃ a vs, σ[i]? = some (some (.ref a)) ∧ G a = none ∧ H a = some (.lst vs) ∧ RpAll K G vs xs ∧
    (b = true → F.B a ∧ F.s0[i]? = some (some (.ref a))) ∧ (b = false → F.H0 a = none)
  sep : ∀ (i j : Nat) (a : Addr) (b1 : Bool) (x1 : List PyData) (b2 : Bool) (x2 : List PyData), S[i]? = some (.own b1 x1) → S[j]? = some (.own b2 x2) → σ[i]? = some (some (.ref a)) → σ[j]? = some (some (.ref a)) → i = j

/-- the heap grows by new known objects alone -/
structure PX (G H G' H' : Hp) : Prop where
  gg : Ex G G'
  hh : Ex H H'
  gh : Ex G' H'
  new : ∀ b, G' b ≠ none → G b ≠ none ∨ H b = none
theorem PX.refl {G H : Hp} (e : Ex G H) : PX G H G H := ⟨.refl _, .refl _, e, fun _ h => .inl h⟩
theorem PX.trans {G H G1 H1 G2 H2 : Hp} (a : PX G H G1 H1) (b : PX G1 H1 G2 H2) : PX G H G2 H2 :=
  ⟨a.gg.trans b.gg, a.hh.trans b.hh, b.gh, fun x h => (b.new x h).elim (a.new x) fun q => .inr (a.hh.free q)⟩
/-- a new object, known -/
theorem PX.laid {G H : Hp} {p : Addr} {o : HO} (e : Ex G H) (h : H p = none) : PX G H (upd G p o) (upd H p o) := by
  refine ⟨.new (e.free h), .new h, fun b u q => ?_, fun b q => ?_⟩
  · by_cases hb : b = p
    · subst hb; rw [upd_same] at q ⊢; exact q
    · rw [upd_ne hb] at q ⊢; exact e b u q
  · by_cases hb : b = p
    · subst hb; exact .inr h
    · rw [upd_ne hb] at q; exact .inl q
/-- a new object, unknown -/
theorem PX.side {G H : Hp} {p : Addr} {o : HO} (e : Ex G H) (h : H p = none) : PX G H G (upd H p o) :=
  ⟨.refl _, .new h, e.trans (.new h), fun _ q => .inl q⟩

section
variable {K : PySem.W.Frag} {F : Fr} {S S' : List SD} {σ : L2.St} {H G H' G' : Hp}
theorem SR.ext (r : SR K F S σ H G) (p : PX G H G' H') : SR K F S σ H' G' := by
  refine ⟨r.len, r.g0.trans p.gg, p.gh, fun b h => ?_, fun b o h n => p.hh b o (r.keep b o h n), fun b h => p.hh.live (r.live b h), fun i x h => ?_, fun i b xs h => ?_, r.sep⟩
  · rcases p.new b h with q | q
    · exact r.new b q
    · cases z : F.H0 b with
      | none => exact .inr rfl
      | some o => exact absurd q (r.live b (by rw [z]; simp))
  · obtain ⟨v, h1, h2⟩ := r.dat i x h
    exact ⟨v, h1, h2.mono p.gg⟩
  · obtain ⟨a, vs, h1, h2, h3, h4, h5⟩ := r.own i b xs h
    refine ⟨a, vs, h1, ?_, p.hh a _ h3, h4.mono p.gg, h5⟩
    cases z : G' a with
    | none => rfl
    | some o =>
      rcases p.new a (by rw [z]; simp) with q | q
      · exact absurd h2 q
      · rw [h3] at q; cases q
/-- a slot is given data -/
theorem SR.setD (r : SR K F S σ H G) (i : Nat) {v : V} {x : PyData} (h : Rp K G v x) : SR K F (S.set i (.d x)) (σ.set i (some v)) H G := by
  have L := r.len
  refine ⟨by simp [L], r.g0, r.gh, r.new, r.keep, r.live, fun j y e => ?_, fun j b xs e => ?_, fun j k a b1 x1 b2 x2 e1 e2 e3 e4 => ?_⟩
  · by_cases hj : i = j
    · subst hj
      by_cases hl : i < S.length
      · rw [List.getElem?_set_self hl] at e
        cases e
        exact ⟨v, by rw [List.getElem?_set_self (by omega)], h⟩
      · rw [List.getElem?_eq_none (by simpa using Nat.le_of_not_lt hl)] at e; cases e
    · rw [List.getElem?_set_ne hj] at e ⊢
      exact r.dat j y e
  · by_cases hj : i = j
    · subst hj
      by_cases hl : i < S.length
      · rw [List.getElem?_set_self hl] at e; cases e
      · rw [List.getElem?_eq_none (by simpa using Nat.le_of_not_lt hl)] at e; cases e
    · rw [List.getElem?_set_ne hj] at e ⊢
      exact r.own j b xs e
  · have ne : ∀ m c y, (S.set i (.d x))[m]? = some (.own c y) → i ≠ m := fun m c y e q => by
      subst q
      by_cases hl : i < S.length
      · rw [List.getElem?_set_self hl] at e; cases e
      · rw [List.getElem?_eq_none (by simpa using Nat.le_of_not_lt hl)] at e; cases e
    have n1 := ne _ _ _ e1
    have n2 := ne _ _ _ e2
    rw [List.getElem?_set_ne n1] at e1 e3
    rw [List.getElem?_set_ne n2] at e2 e4
    exact r.sep j k a b1 x1 b2 x2 e1 e2 e3 e4
/-- an address that no slot owns -/
def Apart (S : List SD) (σ : L2.St) (a : Addr) : Prop := ∀ (i : Nat) (b : Bool) (xs : List PyData), S[i]? = some (.own b xs) → σ[i]? ≠ some (some (.ref a))
/-- a slot is given a fresh list -/
theorem SR.setO (r : SR K F S σ H G) (i : Nat) {a : Addr} {vs : List V} {xs : List PyData} (hg : G a = none) (hh : H a = some (.lst vs)) (h : RpAll K G vs xs) (h0 : F.H0 a = none) (ap : Apart S σ a) :
    SR K F (S.set i (.own false xs)) (σ.set i (some (.ref a))) H G := by
  have L := r.len
  refine ⟨by simp [L], r.g0, r.gh, r.new, r.keep, r.live, fun j y e => ?_, fun j b ys e => ?_, fun j k c b1 x1 b2 x2 e1 e2 e3 e4 => ?_⟩
  · by_cases hj : i = j
    · subst hj
      by_cases hl : i < S.length
      · rw [List.getElem?_set_self hl] at e; cases e
      · rw [List.getElem?_eq_none (by simpa using Nat.le_of_not_lt hl)] at e; cases e
    · rw [List.getElem?_set_ne hj] at e ⊢
      exact r.dat j y e
  · by_cases hj : i = j
    · subst hj
      by_cases hl : i < S.length
      · rw [List.getElem?_set_self hl] at e
        cases e
        exact ⟨a, vs, by rw [List.getElem?_set_self (by omega)], hg, hh, h, (fun q => by cases q), fun _ => h0⟩
      · rw [List.getElem?_eq_none (by simpa using Nat.le_of_not_lt hl)] at e; cases e
    · rw [List.getElem?_set_ne hj] at e ⊢
      exact r.own j b ys e
  · by_cases hj : i = j
    · by_cases hk : i = k
      · exact hj.symm.trans hk
      · subst hj
        rw [List.getElem?_set_ne hk] at e2 e4
        by_cases hl : i < S.length
        · rw [List.getElem?_set_self (by omega)] at e3
          cases e3
          exact absurd e4 (ap k _ _ e2)
        · rw [List.getElem?_eq_none (by simpa using Nat.le_of_not_lt hl)] at e1; cases e1
    · rw [List.getElem?_set_ne hj] at e1 e3
      by_cases hk : i = k
      · subst hk
        by_cases hl : i < S.length
        · rw [List.getElem?_set_self (by omega)] at e4
          cases e4
          exact absurd e3 (ap j _ _ e1)
        · rw [List.getElem?_eq_none (by simpa using Nat.le_of_not_lt hl)] at e2; cases e2
      · rw [List.getElem?_set_ne hk] at e2 e4
        exact r.sep j k c b1 x1 b2 x2 e1 e2 e3 e4
/-- a slot's list becomes known -/
theorem SR.freeze (r : SR K F S σ H G) {i : Nat} {xs : List PyData} (e : S[i]? = some (.own false xs)) :
    ∃ v G', Ex G G' ∧ σ[i]? = some (some v) ∧ Rp K G' v (.list xs) ∧ SR K F (S.set i (.d (.list xs))) σ H G' := by
  obtain ⟨a, vs, h1, h2, h3, h4, _, h6⟩ := r.own i _ _ e
  have e0 : F.H0 a = none := h6 rfl
  have eg : Ex G (upd G a (.lst vs)) := .new h2
  have hl : i < S.length := (List.getElem?_eq_some_iff.mp e).1
  have rp : Rp K (upd G a (.lst vs)) (.ref a) (.list xs) := .lst upd_same (h4.mono eg)
  refine ⟨.ref a, upd G a (.lst vs), eg, h1, rp, ⟨by simp [r.len], r.g0.trans eg, fun b o q => ?_, fun b q => ?_, r.keep, r.live, fun j y q => ?_, fun j b ys q => ?_, fun j k c b1 x1 b2 x2 e1 e2 e3 e4 => ?_⟩⟩
  · by_cases hb : b = a
    · subst hb; rw [upd_same] at q; cases q; exact h3
    · rw [upd_ne hb] at q; exact r.gh b o q
  · by_cases hb : b = a
    · subst hb; exact .inr e0
    · rw [upd_ne hb] at q; exact r.new b q
  · by_cases hj : i = j
    · subst hj
      rw [List.getElem?_set_self hl] at q
      cases q
      exact ⟨.ref a, h1, rp⟩
    · rw [List.getElem?_set_ne hj] at q
      obtain ⟨v, q1, q2⟩ := r.dat j y q
      exact ⟨v, q1, q2.mono eg⟩
  · by_cases hj : i = j
    · subst hj
      rw [List.getElem?_set_self hl] at q; cases q
    · rw [List.getElem?_set_ne hj] at q
      obtain ⟨c, ws, q1, q2, q3, q4, q5⟩ := r.own j b ys q
      refine ⟨c, ws, q1, ?_, q3, q4.mono eg, q5⟩
      have nc : c ≠ a := fun z => by
        subst z
        exact hj (r.sep i j c _ _ _ _ e q h1 q1)
      rw [upd_ne nc]; exact q2
  · have ne : ∀ m c y, (S.set i (.d (.list xs)))[m]? = some (.own c y) → i ≠ m := fun m c y e q => by
      subst q
      rw [List.getElem?_set_self hl] at e; cases e
    have n1 := ne _ _ _ e1
    have n2 := ne _ _ _ e2
    rw [List.getElem?_set_ne n1] at e1
    rw [List.getElem?_set_ne n2] at e2
    exact r.sep j k c b1 x1 b2 x2 e1 e2 e3 e4
/-- a slot's list is written -/
theorem SR.write (r : SR K F S σ H G) {i : Nat} {b : Bool} {xs ys : List PyData} {a : Addr} {ws : List V} (e : S[i]? = some (.own b xs)) (ea : σ[i]? = some (some (.ref a))) (hw : RpAll K G ws ys) :
    SR K F (S.set i (.own b ys)) σ (upd H a (.lst ws)) G := by
  obtain ⟨a', vs, h1, h2, h3, h4, h5, h6⟩ := r.own i _ _ e
  have ea' : a = a' := by rw [ea] at h1; exact V.ref.inj (Option.some.inj (Option.some.inj h1))
  subst ea'
  have hl : i < S.length := (List.getElem?_eq_some_iff.mp e).1
  refine ⟨by simp [r.len], r.g0, fun c o q => ?_, r.new, fun c o q n => ?_, fun c q => ?_, fun j y q => ?_, fun j c zs q => ?_, fun j k c b1 x1 b2 x2 e1 e2 e3 e4 => ?_⟩
  · rw [upd_ne (ne_of_none q h2)]; exact r.gh c o q
  · have nc : c ≠ a := fun z => by
      subst z
      cases b with
      | true => exact n (h5 rfl).1
      | false => rw [h6 rfl] at q; cases q
    rw [upd_ne nc]; exact r.keep c o q n
  · by_cases hc : c = a
    · subst hc; rw [upd_same]; simp
    · rw [upd_ne hc]; exact r.live c q
  · by_cases hj : i = j
    · subst hj
      rw [List.getElem?_set_self hl] at q; cases q
    · rw [List.getElem?_set_ne hj] at q
      exact r.dat j y q
  · by_cases hj : i = j
    · subst hj
      rw [List.getElem?_set_self hl] at q
      cases q
      exact ⟨a, ws, ea, h2, upd_same, hw, h5, h6⟩
    · rw [List.getElem?_set_ne hj] at q
      obtain ⟨d, us, q1, q2, q3, q4, q5⟩ := r.own j c zs q
      refine ⟨d, us, q1, q2, ?_, q4, q5⟩
      have nd : d ≠ a := fun z => by
        subst z
        exact hj (r.sep i j d _ _ _ _ e q ea q1)
      rw [upd_ne nd]; exact q3
  · have own : ∀ (m : Nat) (c : Bool) (y : List PyData), (S.set i (.own b ys))[m]? = some (.own c y) → ∃ (c' : Bool) (y' : List PyData), S[m]? = some (.own c' y') := fun m c y e' => by
      by_cases hm : i = m
      · subst hm; exact ⟨_, _, e⟩
      · rw [List.getElem?_set_ne hm] at e'; exact ⟨_, _, e'⟩
    obtain ⟨_, _, z1⟩ := own _ _ _ e1
    obtain ⟨_, _, z2⟩ := own _ _ _ e2
    exact r.sep j k c _ _ _ _ z1 z2 e3 e4
/-- nothing told any more -/
theorem SR.forget (r : SR K F S σ H G) (i : Nat) (o : Option V) : SR K F (S.set i .un) (σ.set i o) H G := by
  have L := r.len
  have nD : ∀ m y, (S.set i .un)[m]? = some (.d y) → i ≠ m := fun m y e q => by
    subst q
    by_cases hl : i < S.length
    · rw [List.getElem?_set_self hl] at e; cases e
    · rw [List.getElem?_eq_none (by simpa using Nat.le_of_not_lt hl)] at e; cases e
  have nO : ∀ m c y, (S.set i .un)[m]? = some (.own c y) → i ≠ m := fun m c y e q => by
    subst q
    by_cases hl : i < S.length
    · rw [List.getElem?_set_self hl] at e; cases e
    · rw [List.getElem?_eq_none (by simpa using Nat.le_of_not_lt hl)] at e; cases e
  refine ⟨by simp [L], r.g0, r.gh, r.new, r.keep, r.live, fun j y e => ?_, fun j b xs e => ?_, fun j k a b1 x1 b2 x2 e1 e2 e3 e4 => ?_⟩
  · have n := nD j y e
    rw [List.getElem?_set_ne n] at e ⊢
    exact r.dat j y e
  · have n := nO j b xs e
    rw [List.getElem?_set_ne n] at e ⊢
    exact r.own j b xs e
  · have n1 := nO _ _ _ e1
    have n2 := nO _ _ _ e2
    rw [List.getElem?_set_ne n1] at e1 e3
    rw [List.getElem?_set_ne n2] at e2 e4
    exact r.sep j k a b1 x1 b2 x2 e1 e2 e3 e4
theorem SR.fresh (r : SR K F S σ H G) {p : Addr} (h : H p = none) : F.H0 p = none ∧ G p = none ∧ Apart S σ p := by
  refine ⟨?_, r.gh.free h, fun i b xs e q => ?_⟩
  · cases z : F.H0 p with
    | none => rfl
    | some o => exact absurd h (r.live p (by rw [z]; simp))
  · obtain ⟨a, vs, h1, _, h3, _⟩ := r.own i b xs e
    rw [h1] at q
    cases q
    rw [h3] at h; cases h
end
end DL

set_option Elab.async false
set_option linter.all false
set_option maxRecDepth 100000
set_option maxHeartbeats 4000000
/-! DL, part 2: what an expression means on slots, and that its reading keeps to it. -/
namespace DL
open PySem PySem.Spec PyProof.Rows L2

/-! ### operands -/
inductive Op where
  | dat (x : PyData)
  | slot (i : Nat)
def sdGet : SD → Option PyData
  | .d x => some x
  | .own _ xs => some (.list xs)
  | .un => none
def Op.get (S : List SD) : Op → Option PyData
  | .dat x => some x
  | .slot i => (S[i]?).bind sdGet
def OpR (K : PySem.W.Frag) (G : Hp) (σ : L2.St) (v : V) : Op → Prop
  | .dat x => Rp K G v x
  | .slot i => σ[i]? = some (some v)
/-- what stands at v: known data, or a list of known items -/
def RV (K : PySem.W.Frag) (G H : Hp) (v : V) (x : PyData) : Prop := Rp K G v x ∨ ∃ a vs xs, x = .list xs ∧ v = .ref a ∧ H a = some (.lst vs) ∧ RpAll K G vs xs
section
variable {K : PySem.W.Frag} {F : Fr} {S S' : List SD} {σ : L2.St} {H G H' G' : Hp} {v : V} {x : PyData} {o : Op}
theorem OpR.mono (e : Ex G G') (h : OpR K G σ v o) : OpR K G' σ v o := by
  cases o with
  | dat x => exact Rp.mono e h
  | slot i => exact h
theorem op_get (r : SR K F S σ H G) (h : OpR K G σ v o) (e : o.get S = some x) : RV K G H v x := by
  cases o with
  | dat y => cases e; exact .inl h
  | slot i =>
    have h : σ[i]? = some (some v) := h
    have e : (S[i]?).bind sdGet = some x := e
    cases q : S[i]? with
    | none => rw [q] at e; cases e
    | some sd =>
      rw [q] at e
      cases sd with
      | un => cases e
      | d y =>
        cases e
        obtain ⟨w, h1, h2⟩ := r.dat i _ q
        rw [h] at h1; cases h1
        exact .inl h2
      | own b xs =>
        cases e
        obtain ⟨a, vs, h1, h2, h3, h4, _⟩ := r.own i _ _ q
        rw [h] at h1; cases h1
        exact .inr ⟨a, vs, xs, rfl, rfl, h3, h4⟩
theorem RV.rp (e : Ex G H) (h : RV K G H v x) : Rp K H v x := by
  rcases h with h | ⟨a, vs, xs, rfl, rfl, h3, h4⟩
  · exact h.mono e
  · exact .lst h3 (h4.mono e)
theorem RV.non (h : RV K G H v .none) : v = .non := by
  rcases h with h | ⟨a, vs, xs, e, _⟩
  · cases h; rfl
  · cases e
theorem RV.bl {b : Bool} (h : RV K G H v (.bool b)) : v = .bl b := by
  rcases h with h | ⟨a, vs, xs, e, _⟩
  · cases h; rfl
  · cases e
theorem RV.int {i : Int} (h : RV K G H v (.int i)) : v = .int i := by
  rcases h with h | ⟨a, vs, xs, e, _⟩
  · cases h; rfl
  · cases e
theorem RV.str {i : Str} (h : RV K G H v (.str i)) : v = .str i := by
  rcases h with h | ⟨a, vs, xs, e, _⟩
  · cases h; rfl
  · cases e
theorem RV.lst {xs : List PyData} (e : Ex G H) (h : RV K G H v (.list xs)) : ∃ a vs, v = .ref a ∧ H a = some (.lst vs) ∧ RpAll K G vs xs := by
  rcases h with h | ⟨a, vs, xs, q, h2, h3, h4⟩
  · cases h with
    | lst h1 h2 => exact ⟨_, _, rfl, e _ _ h1, h2⟩
  · cases q
    exact ⟨a, vs, h2, h3, h4⟩
theorem RV.tup {xs : List PyData} (e : Ex G H) (h : RV K G H v (.tuple xs)) : ∃ a vs, v = .ref a ∧ SqT K H a vs ∧ RpAll K G vs xs := by
  rcases h with h | ⟨a, vs, xs, q, h2, h3, h4⟩
  · cases h with
    | tup h1 h2 => exact ⟨_, _, rfl, e.st h1, h2⟩
  · cases q
theorem RV.dic {xs : List (PyData × PyData)} (e : Ex G H) (hx : ∀ ds, xs ≠ [(.none, .list ds)]) (h : RV K G H v (.dict xs)) : ∃ a vs, v = .ref a ∧ Rd H a (.dK vs) ∧ RpKV K G vs xs := by
  rcases h with h | ⟨a, vs, xs, q, h2, h3, h4⟩
  · cases h with
    | dic h1 h2 => exact ⟨_, _, rfl, e.rd h1, h2⟩
    | scr _ _ => exact absurd rfl (hx _)
  · cases q
theorem RpKV.notNone {ds : List PyData} {kvs : List (Key × V)} (h : RpKV K G kvs [(.none, .list ds)]) : False := by
  cases kvs with
  | nil => cases h
  | cons p r =>
    obtain ⟨k, v⟩ := p
    cases k <;> cases h
theorem RV.scr {ds : List PyData} (e : Ex G H) (h : RV K G H v (.dict [(.none, .list ds)])) : ∃ a vs, v = .ref a ∧ SqL K H a vs ∧ RpAll K G vs ds := by
  rcases h with h | ⟨a, vs, xs, q, h2, h3, h4⟩
  · cases h with
    | dic h1 h2 => exact h2.notNone.elim
    | scr h1 h2 => exact ⟨_, _, rfl, e.sl h1, h2⟩
  · cases q
end

/-! ### values by values -/
/-- a two-place rule on values keeps to g -/
def V2 (K : PySem.W.Frag) (r : R2) (g : PyData → PyData → Option PyData) : Prop :=
  ∀ (G H : Hp) (v w : V) (x y z : PyData), Ex G H → RV K G H v x → RV K G H w y → g x y = some z → ∀ Q : VK, (∀ u H' G', PX G H G' H' → Rp K G' u z → Q u H') → r v w H Q
def V1 (K : PySem.W.Frag) (r : V → Hp → VK → Prop) (g : PyData → Option PyData) : Prop :=
  ∀ (G H : Hp) (v : V) (x z : PyData), Ex G H → RV K G H v x → g x = some z → ∀ Q : VK, (∀ u H' G', PX G H G' H' → Rp K G' u z → Q u H') → r v H Q
inductive RVs (K : PySem.W.Frag) (G H : Hp) : List V → List PyData → Prop
  | nil : RVs K G H [] []
  | cons {v : V} {vs : List V} {x : PyData} {xs : List PyData} : RV K G H v x → RVs K G H vs xs → RVs K G H (v :: vs) (x :: xs)
def VN (K : PySem.W.Frag) (r : List V → Hp → VK → Prop) (g : List PyData → Option PyData) : Prop :=
  ∀ (G H : Hp) (vs : List V) (xs : List PyData) (z : PyData), Ex G H → RVs K G H vs xs → g xs = some z → ∀ Q : VK, (∀ u H' G', PX G H G' H' → Rp K G' u z → Q u H') → r vs H Q
def V2L (K : PySem.W.Frag) (r : R2) (g : PyData → PyData → Option (List PyData)) : Prop :=
  ∀ (G H : Hp) (v w : V) (x y : PyData) (zs : List PyData), Ex G H → RV K G H v x → RV K G H w y → g x y = some zs → ∀ Q : VK, (∀ p ws H' G', PX G H G' H' → H p = none → G' p = none → H' p = some (.lst ws) → RpAll K G' ws zs → Q (.ref p) H') → r v w H Q
/-- .. where a new list comes out -/
def VL (K : PySem.W.Frag) (r : List V → Hp → VK → Prop) (g : List PyData → Option (List PyData)) : Prop :=
  ∀ (G H : Hp) (vs : List V) (xs : List PyData) (zs : List PyData), Ex G H → RVs K G H vs xs → g xs = some zs → ∀ Q : VK, (∀ p ws H' G', PX G H G' H' → H p = none → G' p = none → H' p = some (.lst ws) → RpAll K G' ws zs → Q (.ref p) H') → r vs H Q

/-! ### what readings keep to -/
abbrev ES := List SD → Option (Op × List SD)
abbrev BS := List SD → Option (Bool × List SD)
abbrev AS := List SD → Option (List Op × List SD)
abbrev LS := List SD → Option (List PyData × List SD)
abbrev DS := List SD → Option (PyData × List SD)
inductive OpRs (K : PySem.W.Frag) (G : Hp) (σ : L2.St) : List V → List Op → Prop
  | nil : OpRs K G σ [] []
  | cons {v : V} {vs : List V} {o : Op} {os : List Op} : OpR K G σ v o → OpRs K G σ vs os → OpRs K G σ (v :: vs) (o :: os)
def SemE (K : PySem.W.Frag) (t : TE) (f : ES) : Prop := ∀ F S σ H G o S', SR K F S σ H G → f S = some (o, S') → ∀ Q : VK, (∀ v H' G', SR K F S' σ H' G' → Ex G G' → OpR K G' σ v o → Q v H') → t σ H Q
def SemB (K : PySem.W.Frag) (t : TT) (f : BS) : Prop := ∀ F S σ H G b S', SR K F S σ H G → f S = some (b, S') → ∀ Q : Bool → Hp → Prop, (∀ H' G', SR K F S' σ H' G' → Ex G G' → Q b H') → t σ H Q
def SemA (K : PySem.W.Frag) (t : TA) (f : AS) : Prop := ∀ F S σ H G os S', SR K F S σ H G → f S = some (os, S') → ∀ Q : List V → Hp → Prop, (∀ vs H' G', SR K F S' σ H' G' → Ex G G' → OpRs K G' σ vs os → Q vs H') → t σ H Q
/-- a new list comes out -/
def SemL (K : PySem.W.Frag) (t : TE) (f : LS) : Prop := ∀ F S σ H G xs S', SR K F S σ H G → f S = some (xs, S') → ∀ Q : VK, (∀ p vs H' G', SR K F S' σ H' G' → Ex G G' → F.H0 p = none → G' p = none → Apart S' σ p → H' p = some (.lst vs) → RpAll K G' vs xs → Q (.ref p) H') → t σ H Q
/-- data are wanted: a slot's own list stands still from then on -/
def SemD (K : PySem.W.Frag) (t : TE) (f : DS) : Prop := ∀ F S σ H G x S', SR K F S σ H G → f S = some (x, S') → ∀ Q : VK, (∀ v H' G', SR K F S' σ H' G' → Ex G G' → Rp K G' v x → Q v H') → t σ H Q
structure SE (X : Cx) (K : PySem.W.Frag) (e : Expr) (t : TE) (f : ES) : Prop where
  p : PE X e t
  ok : SemE K t f
structure ST (X : Cx) (K : PySem.W.Frag) (e : Expr) (t : TT) (f : BS) : Prop where
  p : PT X e t
  ok : SemB K t f
structure SW (X : Cx) (K : PySem.W.Frag) (e : Expr) (t : TT) (f : BS) : Prop where
  p : PW X e t
  ok : SemB K t f
structure SA (X : Cx) (K : PySem.W.Frag) (es : List Expr) (t : TA) (f : AS) : Prop where
  p : PA X es t
  ok : SemA K t f
structure SL (X : Cx) (K : PySem.W.Frag) (e : Expr) (t : TE) (f : LS) : Prop where
  p : PE X e t
  ok : SemL K t f
structure SDt (X : Cx) (K : PySem.W.Frag) (e : Expr) (t : TE) (f : DS) : Prop where
  p : PE X e t
  ok : SemD K t f

section
variable {K : PySem.W.Frag} {F : Fr} {S S' : List SD} {σ : L2.St} {H G H' G' : Hp}
theorem OpRs.mono (e : Ex G G') : ∀ {vs : List V} {os : List Op}, OpRs K G σ vs os → OpRs K G' σ vs os
  | _, _, .nil => .nil
  | _, _, .cons h t => .cons (OpR.mono e h) (OpRs.mono e t)
def getAll (S : List SD) : List Op → Option (List PyData)
  | [] => some []
  | o :: os => (o.get S).bind fun x => (getAll S os).map fun xs => x :: xs
theorem ops_get (r : SR K F S σ H G) : ∀ {vs : List V} {os : List Op} {xs : List PyData}, OpRs K G σ vs os → getAll S os = some xs → RVs K G H vs xs
  | _, _, _, .nil, e => by cases e; exact .nil
  | _, o :: os, _, .cons h t, e => by
    unfold getAll at e
    obtain ⟨x, e1, e⟩ := Option.bind_eq_some_iff.mp e
    obtain ⟨xs, e2, rfl⟩ := Option.map_eq_some_iff.mp e
    exact .cons (op_get r h e1) (ops_get r t e2)
/-- a slot's list is frozen, data are taken -/
def takeS (S : List SD) (i : Nat) : Option SD → Option (PyData × List SD)
  | some (.d x) => some (x, S)
  | some (.own false xs) => some (.list xs, S.set i (.d (.list xs)))
  | _ => none
def takeO (S : List SD) : Op → Option (PyData × List SD)
  | .dat x => some (x, S)
  | .slot i => takeS S i (S[i]?)
theorem take_ok {v : V} {o : Op} {x : PyData} (r : SR K F S σ H G) (h : OpR K G σ v o) (e : takeO S o = some (x, S')) : ∃ G', Ex G G' ∧ SR K F S' σ H G' ∧ Rp K G' v x := by
  cases o with
  | dat y => cases e; exact ⟨G, .refl _, r, h⟩
  | slot i =>
    have h : σ[i]? = some (some v) := h
    have e : takeS S i (S[i]?) = some (x, S') := e
    cases q : S[i]? with
    | none => rw [q] at e; cases e
    | some sd =>
      rw [q] at e
      cases sd with
      | un => cases e
      | d y =>
        cases e
        obtain ⟨w, h1, h2⟩ := r.dat i _ q
        rw [h] at h1; cases h1
        exact ⟨G, .refl _, r, h2⟩
      | own b xs =>
        cases b with
        | true => cases e
        | false =>
          cases e
          obtain ⟨w, G', h1, h2, h3, h4⟩ := r.freeze q
          rw [h] at h2; cases h2
          exact ⟨G', h1, h4, h3⟩
def takeAll (S : List SD) : List Op → Option (List PyData × List SD)
  | [] => some ([], S)
  | o :: os => (takeO S o).bind fun p => (takeAll p.2 os).map fun q => (p.1 :: q.1, q.2)
theorem takeAll_ok : ∀ {vs : List V} {os : List Op} {xs : List PyData} {S S' : List SD} {G : Hp}, SR K F S σ H G → OpRs K G σ vs os → takeAll S os = some (xs, S') → ∃ G', Ex G G' ∧ SR K F S' σ H G' ∧ RpAll K G' vs xs
  | _, _, _, _, _, G, r, .nil, e => by cases e; exact ⟨G, .refl _, r, .nil⟩
  | _, o :: os, _, S, S', G, r, .cons h t, e => by
    unfold takeAll at e
    obtain ⟨⟨x, S1⟩, e1, e⟩ := Option.bind_eq_some_iff.mp e
    obtain ⟨⟨xs, S2⟩, e2, e3⟩ := Option.map_eq_some_iff.mp e
    cases e3
    obtain ⟨G1, g1, r1, h1⟩ := take_ok r h e1
    obtain ⟨G2, g2, r2, h2⟩ := takeAll_ok r1 (t.mono g1) e2
    exact ⟨G2, g1.trans g2, r2, .cons (h1.mono g2) h2⟩
end

section
variable {K : PySem.W.Frag} {ta tb tc te : TE} {tt tu : TT} {tA : TA} {fe fa fb fc : ES} {ft fu : BS} {fs : AS} {fl : LS} {fd : DS}
/-! ### names, constants -/
def sdTold : Option SD → Bool
  | some (.d _) => true
  | some (.own _ _) => true
  | _ => false
def sVar (i : Nat) : ES := fun S => if sdTold (S[i]?) = true then some (.slot i, S) else none
theorem sem_var {i : Nat} : SemE K (tVar i) (sVar i) := by
  intro F S σ H G o S' r ef Q k
  have ef : (if sdTold (S[i]?) = true then some (Op.slot i, S) else none) = some (o, S') := ef
  cases q : S[i]? with
  | none => rw [q] at ef; cases ef
  | some sd =>
    rw [q] at ef
    cases sd with
    | un => cases ef
    | d x =>
      cases ef
      obtain ⟨v, h1, _⟩ := r.dat i _ q
      exact ⟨v, h1, k v H G r (.refl _) h1⟩
    | own b' xs =>
      cases ef
      obtain ⟨a', vs, h1, _⟩ := r.own i _ _ q
      exact ⟨_, h1, k _ H G r (.refl _) h1⟩
def sC (x : PyData) : ES := fun S => some (.dat x, S)
theorem sem_c {v : V} {x : PyData} (hr : ∀ G, Rp K G v x) : SemE K (tC v) (sC x) := by
  intro F S σ H G o S' r ef Q k
  cases ef
  exact k v H G r (.refl _) (hr G)
/-! ### data, new lists -/
def sTake (f : ES) : DS := fun S => (f S).bind fun p => takeO p.2 p.1
theorem sem_take (hs : SemE K te fe) : SemD K te (sTake fe) := by
  intro F S σ H G x S' r ef Q k
  obtain ⟨⟨o, S1⟩, e1, e2⟩ := Option.bind_eq_some_iff.mp ef
  refine hs F S σ H G o S1 r e1 Q fun v H' G' r1 g1 h1 => ?_
  obtain ⟨G2, g2, r2, h2⟩ := take_ok r1 h1 e2
  exact k v H' G2 r2 (g1.trans g2) h2
def sDat (f : DS) : ES := fun S => (f S).map fun p => (.dat p.1, p.2)
theorem sem_dat (hs : SemD K te fd) : SemE K te (sDat fd) := by
  intro F S σ H G x S' r ef Q k
  obtain ⟨⟨o, S1⟩, e1, e2⟩ := Option.map_eq_some_iff.mp ef
  cases e2
  exact hs F S σ H G o _ r e1 Q fun v H' G' r1 g1 h1 => k v H' G' r1 g1 h1
def sKeep (f : LS) : ES := fun S => (f S).map fun p => (.dat (.list p.1), p.2)
theorem SR.known {K : PySem.W.Frag} {F : Fr} {S : List SD} {σ : L2.St} {H G : Hp} {p : Addr} {vs : List V} {xs : List PyData} (r : SR K F S σ H G) (h0 : F.H0 p = none) (hg : G p = none) (ap : Apart S σ p) (hh : H p = some (.lst vs)) (h : RpAll K G vs xs) :
    ∃ G', Ex G G' ∧ SR K F S σ H G' ∧ Rp K G' (.ref p) (.list xs) := by
  have eg : Ex G (upd G p (.lst vs)) := .new hg
  refine ⟨_, eg, ⟨r.len, r.g0.trans eg, fun b o q => ?_, fun b q => ?_, r.keep, r.live, fun j y q => ?_, fun j b ys q => ?_, r.sep⟩, .lst upd_same (h.mono eg)⟩
  · by_cases hb : b = p
    · subst hb; rw [upd_same] at q; cases q; exact hh
    · rw [upd_ne hb] at q; exact r.gh b o q
  · by_cases hb : b = p
    · subst hb; exact .inr h0
    · rw [upd_ne hb] at q; exact r.new b q
  · obtain ⟨v, q1, q2⟩ := r.dat j y q
    exact ⟨v, q1, q2.mono eg⟩
  · obtain ⟨c, ws, q1, q2, q3, q4, q5⟩ := r.own j b ys q
    refine ⟨c, ws, q1, ?_, q3, q4.mono eg, q5⟩
    have nc : c ≠ p := fun z => by subst z; exact ap j _ _ q q1
    rw [upd_ne nc]; exact q2
theorem sem_keep (hs : SemL K te fl) : SemE K te (sKeep fl) := by
  intro F S σ H G o S' r ef Q k
  obtain ⟨⟨xs, S1⟩, e1, e2⟩ := Option.map_eq_some_iff.mp ef
  cases e2
  refine hs F S σ H G xs _ r e1 Q fun p vs H' G' r1 g1 h0 hg ap hh h1 => ?_
  obtain ⟨G2, g2, r2, h2⟩ := r1.known h0 hg ap hh h1
  exact k _ H' G2 r2 (g1.trans g2) h2
/-! ### arguments -/
def sNil : AS := fun S => some ([], S)
def sCons (f : ES) (g : AS) : AS := fun S => (f S).bind fun p => (g p.2).map fun q => (p.1 :: q.1, q.2)
theorem sem_nil : SemA K tNil sNil := by
  intro F S σ H G o S' r ef Q k
  cases ef
  exact k _ H G r (.refl _) .nil
theorem sem_cons (hs1 : SemE K te fe) (hs2 : SemA K tA fs) : SemA K (tCons te tA) (sCons fe fs) := by
  intro F S σ H G o S' r ef Q k
  obtain ⟨⟨o1, S1⟩, e1, e2⟩ := Option.bind_eq_some_iff.mp ef
  obtain ⟨⟨o2, S2⟩, e3, e4⟩ := Option.map_eq_some_iff.mp e2
  cases e4
  refine hs1 F S σ H G o1 S1 r e1 _ fun v H1 G1 r1 g1 h1 => ?_
  refine hs2 F S1 σ H1 G1 o2 _ r1 e3 _ fun vs H2 G2 r2 g2 h2 => ?_
  exact k _ H2 G2 r2 (g1.trans g2) (.cons (h1.mono g2) h2)
/-! ### operators -/
def sBin (g : PyData → PyData → Option PyData) (f f' : ES) : ES := fun S => (f S).bind fun p => (f' p.2).bind fun q => (p.1.get q.2).bind fun x => (q.1.get q.2).bind fun y => (g x y).map fun z => (.dat z, q.2)
theorem sem_bin {r2 : R2} {g : PyData → PyData → Option PyData} (hv : V2 K r2 g) (ha : SemE K ta fa) (hb : SemE K tb fb) : SemE K (tOp r2 ta tb) (sBin g fa fb) := by
  intro F S σ H G o S' r ef Q k
  obtain ⟨⟨o1, S1⟩, e1, ef⟩ := Option.bind_eq_some_iff.mp ef
  obtain ⟨⟨o2, S2⟩, e2, ef⟩ := Option.bind_eq_some_iff.mp ef
  obtain ⟨x, e3, ef⟩ := Option.bind_eq_some_iff.mp ef
  obtain ⟨y, e4, ef⟩ := Option.bind_eq_some_iff.mp ef
  obtain ⟨z, e5, ef⟩ := Option.map_eq_some_iff.mp ef
  cases ef
  refine ha F S σ H G o1 S1 r e1 _ fun v H1 G1 r1 g1 h1 => ?_
  refine hb F S1 σ H1 G1 o2 _ r1 e2 _ fun w H2 G2 r2 g2 h2 => ?_
  refine hv G2 H2 v w x y z r2.gh (op_get r2 (h1.mono g2) e3) (op_get r2 h2 e4) e5 Q fun u H3 G3 p h3 => ?_
  exact k u H3 G3 (r2.ext p) ((g1.trans g2).trans p.gg) h3
def sBinL (g : PyData → PyData → Option (List PyData)) (f f' : ES) : LS := fun S => (f S).bind fun p => (f' p.2).bind fun q => (p.1.get q.2).bind fun x => (q.1.get q.2).bind fun y => (g x y).map fun z => (z, q.2)
theorem sem_binL {r2 : R2} {g : PyData → PyData → Option (List PyData)} (hv : V2L K r2 g) (ha : SemE K ta fa) (hb : SemE K tb fb) : SemL K (tOp r2 ta tb) (sBinL g fa fb) := by
  intro F S σ H G o S' r ef Q k
  obtain ⟨⟨o1, S1⟩, e1, ef⟩ := Option.bind_eq_some_iff.mp ef
  obtain ⟨⟨o2, S2⟩, e2, ef⟩ := Option.bind_eq_some_iff.mp ef
  obtain ⟨x, e3, ef⟩ := Option.bind_eq_some_iff.mp ef
  obtain ⟨y, e4, ef⟩ := Option.bind_eq_some_iff.mp ef
  obtain ⟨z, e5, ef⟩ := Option.map_eq_some_iff.mp ef
  cases ef
  refine ha F S σ H G o1 S1 r e1 _ fun v H1 G1 r1 g1 h1 => ?_
  refine hb F S1 σ H1 G1 o2 _ r1 e2 _ fun w H2 G2 r2 g2 h2 => ?_
  refine hv G2 H2 v w x y _ r2.gh (op_get r2 (h1.mono g2) e3) (op_get r2 h2 e4) e5 Q fun p ws H3 G3 px hn hg hh h3 => ?_
  obtain ⟨f0, _, fa⟩ := r2.fresh hn
  exact k p ws H3 G3 (r2.ext px) ((g1.trans g2).trans px.gg) f0 hg fa hh h3
def dBool : PyData → Option Bool
  | .bool b => some b
  | _ => none
/-- a value that is True or False, as a test -/
def sTest (f : ES) : BS := fun S => (f S).bind fun p => (p.1.get p.2).bind fun x => (dBool x).map fun b => (b, p.2)
theorem dBool_some {x : PyData} {b : Bool} (h : dBool x = some b) : x = .bool b := by
  cases x with
  | bool c => cases h; rfl
  | _ => cases h
theorem sem_test (ha : SemE K ta fa) : SemB K (tTest ta) (sTest fa) := by
  intro F S σ H G b S' r ef Q k
  obtain ⟨⟨o1, S1⟩, e1, ef⟩ := Option.bind_eq_some_iff.mp ef
  obtain ⟨x, e3, ef⟩ := Option.bind_eq_some_iff.mp ef
  obtain ⟨z, e5, ef⟩ := Option.map_eq_some_iff.mp ef
  cases ef
  refine ha F S σ H G o1 _ r e1 _ fun v H1 G1 r1 g1 h1 => ?_
  have hx := dBool_some e5
  subst hx
  exact ⟨_, (op_get r1 h1 e3).bl, k H1 G1 r1 g1⟩
/-! ### and, or, not, if else -/
def sAnd (f g : BS) : BS := fun S => (f S).bind fun p => if p.1 = true then g p.2 else some (false, p.2)
def sOr (f g : BS) : BS := fun S => (f S).bind fun p => if p.1 = true then some (true, p.2) else g p.2
def sNot (f : BS) : BS := fun S => (f S).map fun p => (!p.1, p.2)
theorem sem_and (hs : SemB K tt ft) (hs2 : SemB K tu fu) : SemB K (tAnd tt tu) (sAnd ft fu) := by
  intro F S σ H G b S' r ef Q k
  obtain ⟨⟨c, S1⟩, e1, ef⟩ := Option.bind_eq_some_iff.mp ef
  refine hs F S σ H G c S1 r e1 _ fun H1 G1 r1 g1 => ?_
  cases c with
  | true => exact hs2 F S1 σ H1 G1 b S' r1 ef Q fun H2 G2 r2 g2 => k H2 G2 r2 (g1.trans g2)
  | false => cases ef; exact k H1 G1 r1 g1
theorem sem_or (hs : SemB K tt ft) (hs2 : SemB K tu fu) : SemB K (tOr tt tu) (sOr ft fu) := by
  intro F S σ H G b S' r ef Q k
  obtain ⟨⟨c, S1⟩, e1, ef⟩ := Option.bind_eq_some_iff.mp ef
  refine hs F S σ H G c S1 r e1 _ fun H1 G1 r1 g1 => ?_
  cases c with
  | false => exact hs2 F S1 σ H1 G1 b S' r1 ef Q fun H2 G2 r2 g2 => k H2 G2 r2 (g1.trans g2)
  | true => cases ef; exact k H1 G1 r1 g1
theorem sem_not (hs : SemB K tt ft) : SemB K (tNot tt) (sNot ft) := by
  intro F S σ H G b S' r ef Q k
  obtain ⟨⟨c, S1⟩, e1, ef⟩ := Option.map_eq_some_iff.mp ef
  cases ef
  exact hs F S σ H G c _ r e1 _ k
/-- .. as values -/
def sAndV (f g : ES) : ES := fun S => (f S).bind fun p => (p.1.get p.2).bind fun x => (dBool x).bind fun c => if c = true then g p.2 else some (.dat (.bool false), p.2)
def sOrV (f g : ES) : ES := fun S => (f S).bind fun p => (p.1.get p.2).bind fun x => (dBool x).bind fun c => if c = true then some (.dat (.bool true), p.2) else g p.2
def sNotV (f : ES) : ES := fun S => (f S).bind fun p => (p.1.get p.2).bind fun x => (dBool x).map fun c => (.dat (.bool (!c)), p.2)
theorem sem_andV (hs : SemE K ta fa) (hs2 : SemE K tb fb) : SemE K (tAndV ta tb) (sAndV fa fb) := by
  intro F S σ H G b S' r ef Q k
  obtain ⟨⟨o, S1⟩, e1, ef⟩ := Option.bind_eq_some_iff.mp ef
  obtain ⟨x, e2, ef⟩ := Option.bind_eq_some_iff.mp ef
  obtain ⟨c, e3, ef⟩ := Option.bind_eq_some_iff.mp ef
  have hx := dBool_some e3
  subst hx
  refine hs F S σ H G o S1 r e1 _ fun v H1 G1 r1 g1 h1 => ⟨c, (op_get r1 h1 e2).bl, ?_⟩
  cases c with
  | true => exact hs2 F S1 σ H1 G1 b S' r1 ef Q fun v H2 G2 r2 g2 => k v H2 G2 r2 (g1.trans g2)
  | false => cases ef; exact k _ H1 G1 r1 g1 (.bl false)
theorem sem_orV (hs : SemE K ta fa) (hs2 : SemE K tb fb) : SemE K (tOrV ta tb) (sOrV fa fb) := by
  intro F S σ H G b S' r ef Q k
  obtain ⟨⟨o, S1⟩, e1, ef⟩ := Option.bind_eq_some_iff.mp ef
  obtain ⟨x, e2, ef⟩ := Option.bind_eq_some_iff.mp ef
  obtain ⟨c, e3, ef⟩ := Option.bind_eq_some_iff.mp ef
  have hx := dBool_some e3
  subst hx
  refine hs F S σ H G o S1 r e1 _ fun v H1 G1 r1 g1 h1 => ⟨c, (op_get r1 h1 e2).bl, ?_⟩
  cases c with
  | false => exact hs2 F S1 σ H1 G1 b S' r1 ef Q fun v H2 G2 r2 g2 => k v H2 G2 r2 (g1.trans g2)
  | true => cases ef; exact k _ H1 G1 r1 g1 (.bl true)
theorem sem_notV (hs : SemE K ta fa) : SemE K (tNotV ta) (sNotV fa) := by
  intro F S σ H G b S' r ef Q k
  obtain ⟨⟨o, S1⟩, e1, ef⟩ := Option.bind_eq_some_iff.mp ef
  obtain ⟨x, e2, ef⟩ := Option.bind_eq_some_iff.mp ef
  obtain ⟨c, e3, ef⟩ := Option.map_eq_some_iff.mp ef
  have hx := dBool_some e3
  subst hx
  cases ef
  exact hs F S σ H G o _ r e1 _ fun v H1 G1 r1 g1 h1 => ⟨c, (op_get r1 h1 e2).bl, k _ H1 G1 r1 g1 (.bl _)⟩
def sIf {α : Type} (t : BS) (f g : List SD → Option α) : List SD → Option α := fun S => (t S).bind fun p => if p.1 = true then f p.2 else g p.2
theorem sem_if (hsc : SemB K tt ft) (hs : SemE K ta fa) (hs2 : SemE K tb fb) : SemE K (tIf tt ta tb) (sIf ft fa fb) := by
  intro F S σ H G o S' r ef Q k
  obtain ⟨⟨c, S1⟩, e1, ef⟩ := Option.bind_eq_some_iff.mp ef
  refine hsc F S σ H G c S1 r e1 _ fun H1 G1 r1 g1 => ?_
  cases c with
  | true => exact hs F S1 σ H1 G1 o S' r1 ef Q fun v H2 G2 r2 g2 => k v H2 G2 r2 (g1.trans g2)
  | false => exact hs2 F S1 σ H1 G1 o S' r1 ef Q fun v H2 G2 r2 g2 => k v H2 G2 r2 (g1.trans g2)
/-- a chain of two comparisons -/
def sChain (g g' : PyData → PyData → Option PyData) (f f' f'' : ES) : ES := fun S => (f S).bind fun p => (f' p.2).bind fun q => (p.1.get q.2).bind fun x => (q.1.get q.2).bind fun y => (g x y).bind fun z => (dBool z).bind fun k =>
  if k = true then (f'' q.2).bind fun s => (q.1.get s.2).bind fun y' => (s.1.get s.2).bind fun w => (g' y' w).map fun z' => (.dat z', s.2) else some (.dat (.bool false), q.2)
theorem sem_chain {r2 r2' : R2} {g g' : PyData → PyData → Option PyData} (hv : V2 K r2 g) (hv' : V2 K r2' g') (ha : SemE K ta fa) (hb : SemE K tb fb) (hc : SemE K tc fc) : SemE K (tChain r2 r2' ta tb tc) (sChain g g' fa fb fc) := by
  intro F S σ H G o S' r ef Q k
  obtain ⟨⟨o1, S1⟩, e1, ef⟩ := Option.bind_eq_some_iff.mp ef
  obtain ⟨⟨o2, S2⟩, e2, ef⟩ := Option.bind_eq_some_iff.mp ef
  obtain ⟨x, e3, ef⟩ := Option.bind_eq_some_iff.mp ef
  obtain ⟨y, e4, ef⟩ := Option.bind_eq_some_iff.mp ef
  obtain ⟨z, e5, ef⟩ := Option.bind_eq_some_iff.mp ef
  obtain ⟨d, e6, ef⟩ := Option.bind_eq_some_iff.mp ef
  have hz := dBool_some e6
  subst hz
  refine ha F S σ H G o1 S1 r e1 _ fun v H1 G1 r1 g1 h1 => ?_
  refine hb F S1 σ H1 G1 o2 _ r1 e2 _ fun w H2 G2 r2 g2 h2 => ?_
  refine hv G2 H2 v w x y _ r2.gh (op_get r2 (h1.mono g2) e3) (op_get r2 h2 e4) e5 _ fun u H3 G3 p h3 => ?_
  have r3 := r2.ext p
  cases h3
  refine ⟨d, rfl, ?_⟩
  cases d with
  | false => cases ef; exact k _ H3 G3 r3 ((g1.trans g2).trans p.gg) (.bl false)
  | true =>
    have ef : ((fc S2).bind fun s => (o2.get s.2).bind fun y' => (s.1.get s.2).bind fun w => (g' y' w).map fun z' => (Op.dat z', s.2)) = some (o, S') := ef
    obtain ⟨⟨o4, S4⟩, f1, ef⟩ := Option.bind_eq_some_iff.mp ef
    obtain ⟨y', f2, ef⟩ := Option.bind_eq_some_iff.mp ef
    obtain ⟨w4, f3, ef⟩ := Option.bind_eq_some_iff.mp ef
    obtain ⟨z', f4, ef⟩ := Option.map_eq_some_iff.mp ef
    cases ef
    show tc σ H3 _
    refine hc F S2 σ H3 G3 o4 _ r3 f1 _ fun v4 H4 G4 r4 g4 h4 => ?_
    refine hv' G4 H4 w v4 y' w4 z' r4.gh (op_get r4 (h2.mono (p.gg.trans g4)) f2) (op_get r4 h4 f3) f4 Q fun u5 H5 G5 p5 h5 => ?_
    exact k u5 H5 G5 (r4.ext p5) ((((g1.trans g2).trans p.gg).trans g4).trans p5.gg) h5
def sUn (g : PyData → Option PyData) (f : ES) : ES := fun S => (f S).bind fun p => (p.1.get p.2).bind fun x => (g x).map fun z => (.dat z, p.2)
theorem sem_un {r1 : V → Hp → VK → Prop} {g : PyData → Option PyData} (hv : V1 K r1 g) (ka : SemE K ta fa) : SemE K (tUn r1 ta) (sUn g fa) := by
  intro F S σ H G o S' r ef Q k
  obtain ⟨⟨o1, S1⟩, e1, ef⟩ := Option.bind_eq_some_iff.mp ef
  obtain ⟨x, e3, ef⟩ := Option.bind_eq_some_iff.mp ef
  obtain ⟨z, e5, ef⟩ := Option.map_eq_some_iff.mp ef
  cases ef
  refine ka F S σ H G o1 _ r e1 _ fun v H1 G1 r1 g1 h1 => ?_
  exact hv G1 H1 v x z r1.gh (op_get r1 h1 e3) e5 Q fun u H3 G3 p h3 => k u H3 G3 (r1.ext p) (g1.trans p.gg) h3
/-! ### displays, calls of built-ins -/
theorem sz {n : Nat} (h : n ≤ 100000) : n ≤ sizeLine := Nat.le_trans h (by decide)
theorem szl {n : Nat} (h : n < 100000) : n < sizeLine := Nat.lt_of_lt_of_le h (by decide)
def sTup (f : AS) : ES := fun S => (f S).bind fun p => (takeAll p.2 p.1).bind fun q => if q.1.length ≤ 100000 then some (.dat (.tuple q.1), q.2) else none
theorem sem_tup (hs : SemA K tA fs) : SemE K (tTup tA) (sTup fs) := by
  intro F S σ H G o S' r ef Q k
  obtain ⟨⟨os, S1⟩, e1, ef⟩ := Option.bind_eq_some_iff.mp ef
  obtain ⟨⟨xs, S2⟩, e2, ef⟩ := Option.bind_eq_some_iff.mp ef
  split at ef
  · rename_i hl
    cases ef
    refine hs F S σ H G os S1 r e1 _ fun vs H1 G1 r1 g1 h1 => ?_
    obtain ⟨G2, g2, r2, h2⟩ := takeAll_ok r1 h1 e2
    refine ⟨by rw [h2.length]; exact sz hl, fun p hp => ?_⟩
    have px := PX.laid (o := .tup vs) r2.gh hp
    exact k _ _ _ (r2.ext px) ((g1.trans g2).trans px.gg) (.tup (.inl (.inl upd_same)) (h2.mono px.gg))
  · cases ef
def sLst (f : AS) : LS := fun S => (f S).bind fun p => (takeAll p.2 p.1).bind fun q => if q.1.length ≤ 100000 then some (q.1, q.2) else none
theorem sem_lst (hs : SemA K tA fs) : SemL K (tLst tA) (sLst fs) := by
  intro F S σ H G o S' r ef Q k
  obtain ⟨⟨os, S1⟩, e1, ef⟩ := Option.bind_eq_some_iff.mp ef
  obtain ⟨⟨xs, S2⟩, e2, ef⟩ := Option.bind_eq_some_iff.mp ef
  split at ef
  · rename_i hl
    cases ef
    refine hs F S σ H G os S1 r e1 _ fun vs H1 G1 r1 g1 h1 => ?_
    obtain ⟨G2, g2, r2, h2⟩ := takeAll_ok r1 h1 e2
    refine ⟨by rw [h2.length]; exact sz hl, fun p hp => ?_⟩
    obtain ⟨f0, fg, fa⟩ := r2.fresh hp
    have px := PX.side (o := .lst vs) r2.gh hp
    exact k _ _ _ _ (r2.ext px) (g1.trans g2) f0 fg fa upd_same h2
  · cases ef
/-- a built-in's call: the operands as they stand behind the last of them -/
def sCB (g : List PyData → Option PyData) (f : AS) : ES := fun S => (f S).bind fun p => (getAll p.2 p.1).bind fun xs => (g xs).map fun z => (.dat z, p.2)
def sCBL (g : List PyData → Option (List PyData)) (f : AS) : LS := fun S => (f S).bind fun p => (getAll p.2 p.1).bind fun xs => (g xs).map fun z => (z, p.2)
theorem sem_cb {r2 : List V → Hp → VK → Prop} {g : List PyData → Option PyData} (hv : VN K r2 g) (ha : SemA K tA fs) : SemE K (tCB r2 tA) (sCB g fs) := by
  intro F S σ H G o S' r ef Q k
  obtain ⟨⟨os, S1⟩, e1, ef⟩ := Option.bind_eq_some_iff.mp ef
  obtain ⟨xs, e3, ef⟩ := Option.bind_eq_some_iff.mp ef
  obtain ⟨z, e5, ef⟩ := Option.map_eq_some_iff.mp ef
  cases ef
  refine ha F S σ H G os _ r e1 _ fun vs H1 G1 r1 g1 h1 => ?_
  exact hv G1 H1 vs xs z r1.gh (ops_get r1 h1 e3) e5 Q fun u H3 G3 p h3 => k u H3 G3 (r1.ext p) (g1.trans p.gg) h3
theorem sem_cbl {r2 : List V → Hp → VK → Prop} {g : List PyData → Option (List PyData)} (hv : VL K r2 g) (ha : SemA K tA fs) : SemL K (tCB r2 tA) (sCBL g fs) := by
  intro F S σ H G o S' r ef Q k
  obtain ⟨⟨os, S1⟩, e1, ef⟩ := Option.bind_eq_some_iff.mp ef
  obtain ⟨xs, e3, ef⟩ := Option.bind_eq_some_iff.mp ef
  obtain ⟨z, e5, ef⟩ := Option.map_eq_some_iff.mp ef
  cases ef
  refine ha F S σ H G os _ r e1 _ fun vs H1 G1 r1 g1 h1 => ?_
  refine hv G1 H1 vs xs _ r1.gh (ops_get r1 h1 e3) e5 Q fun p ws H3 G3 px hn hg hh h3 => ?_
  obtain ⟨f0, _, fa⟩ := r1.fresh hn
  exact k p ws H3 G3 (r1.ext px) (g1.trans px.gg) f0 hg fa hh h3
end

/-! ### the rules for the text -/
section
variable {X : Cx} {K : PySem.W.Frag} {e a b c : Expr} {es : List Expr} {pos : Pos} {ta tb tc te : TE} {tt tu : TT} {tA : TA} {fe fa fb fc : ES} {ft fu : BS} {fs : AS} {fl : LS} {fd : DS}
theorem se_var {i : Nat} (h : PE X e (tVar i)) : SE X K e (tVar i) (sVar i) := ⟨h, sem_var⟩
theorem se_int {i : Int} {j} : SE X K (.Constant (.int i) j pos) (tC (.int i)) (sC (.int i)) := ⟨pe_int, sem_c fun _ => .int i⟩
theorem se_bl {i : Bool} {j} : SE X K (.Constant (.bool i) j pos) (tC (.bl i)) (sC (.bool i)) := ⟨pe_bl, sem_c fun _ => .bl i⟩
theorem se_non {j} : SE X K (.Constant .none j pos) (tC .non) (sC .none) := ⟨pe_non, sem_c fun _ => .non⟩
theorem se_str {i : Str} {j} : SE X K (.Constant (.str i) j pos) (tC (.str i)) (sC (.str i)) := ⟨pe_str, sem_c fun _ => .str i⟩
/-- a constant of the module -/
structure GK (K : PySem.W.Frag) (mg : Str → Option Value) (x : Str) (v : V) (d : PyData) : Prop where
  to : ∃ u, mg x = some u ∧ RelV v u
  rp : ∀ G, Rp K G v d
theorem se_glob {x : Str} {v : V} {d : PyData} (h : GK K X.mg x v d) (hg : Gl X x := by rfl) (hd : (x == ("__debug__" : Str)) = false := by decide) : SE X K (.Name x pos) (tC v) (sC d) := by
  obtain ⟨⟨u, h1, h2⟩, h3⟩ := h
  exact ⟨pe_glob hg h1 h2 hd, sem_c h3⟩
theorem sd_se (h : SE X K e te fe) : SDt X K e te (sTake fe) := ⟨h.p, sem_take h.ok⟩
theorem se_sd (h : SDt X K e te fd) : SE X K e te (sDat fd) := ⟨h.p, sem_dat h.ok⟩
theorem se_sl (h : SL X K e te fl) : SE X K e te (sKeep fl) := ⟨h.p, sem_keep h.ok⟩
theorem sa_nil : SA X K [] tNil sNil := ⟨pa_nil, sem_nil⟩
theorem sa_cons (h : SE X K e te fe) (h2 : SA X K es tA fs) (hs : starEach (e :: es) X.env = (false, eval e X.env) :: starEach es X.env := by rfl) : SA X K (e :: es) (tCons te tA) (sCons fe fs) := ⟨pa_cons h.p h2.p hs, sem_cons h.ok h2.ok⟩
theorem se_bin {op : Operator} {r : R2} {g : PyData → PyData → Option PyData} (ho : L2.OpR X (binaryOp op) r) (hv : V2 K r g) (ha : SE X K a ta fa) (hb : SE X K b tb fb) : SE X K (.BinOp a op b pos) (tOp r ta tb) (sBin g fa fb) := ⟨pe_op ho ha.p hb.p, sem_bin hv ha.ok hb.ok⟩
theorem sl_bin {op : Operator} {r : R2} {g : PyData → PyData → Option (List PyData)} (ho : L2.OpR X (binaryOp op) r) (hv : V2L K r g) (ha : SE X K a ta fa) (hb : SE X K b tb fb) : SL X K (.BinOp a op b pos) (tOp r ta tb) (sBinL g fa fb) := ⟨pe_op ho ha.p hb.p, sem_binL hv ha.ok hb.ok⟩
theorem se_cmp {op : CmpOp} {r : R2} {g : PyData → PyData → Option PyData} (ho : L2.OpR X (compareOp op) r) (hv : V2 K r g) (ha : SE X K a ta fa) (hb : SE X K b tb fb) (hm : behindInMarks op b = false := by rfl) : SE X K (.Compare a [op] [b] pos) (tOp r ta tb) (sBin g fa fb) := ⟨pe_cmpR ho ha.p hb.p hm, sem_bin hv ha.ok hb.ok⟩
theorem se_ix {r : R2} {g : PyData → PyData → Option PyData} (ho : IxR X r) (hv : V2 K r g) (ha : SE X K a ta fa) (hb : SE X K b tb fb) (hs : PlainIx b := by exact fun _ _ => rfl) : SE X K (.Subscript a b pos) (tOp r ta tb) (sBin g fa fb) := ⟨pe_ix ho ha.p hb.p hs, sem_bin hv ha.ok hb.ok⟩
theorem st_val (h : SE X K e te fe) (he : ∀ whole, isTrue e X.env whole = (do let v ← whole; standAt e.pos; holding [v] (truthy v)) := by intro _; rfl) : ST X K e (tB te) (sTest fe) := ⟨pt_val h.p he, sem_test h.ok⟩
theorem st_cmp {op : CmpOp} {r : R2} {g : PyData → PyData → Option PyData} (ho : L2.OpR X (compareOp op) r) (hv : V2 K r g) (ha : SE X K a ta fa) (hb : SE X K b tb fb) (hm : behindInMarks op b = false := by rfl) : ST X K (.Compare a [op] [b] pos) (tTest (tOp r ta tb)) (sTest (sBin g fa fb)) := ⟨pt_cmpR ho ha.p hb.p hm, sem_test (sem_bin hv ha.ok hb.ok)⟩
theorem sw_and1 (h : ST X K a tt ft) : SW X K (.BoolOp .And [a] pos) tt ft := ⟨pw_and1 h.p, h.ok⟩
theorem sw_or1 (h : ST X K a tt ft) : SW X K (.BoolOp .Or [a] pos) tt ft := ⟨pw_or1 h.p, h.ok⟩
theorem st_sw (h : SW X K a tt ft) : ST X K a tt ft := ⟨h.p.pt, h.ok⟩
theorem sw_and {rest : List Expr} (h : ST X K a tt ft) (h2 : SW X K (.BoolOp .And (b :: rest) pos) tu fu) : SW X K (.BoolOp .And (a :: b :: rest) pos) (tAnd tt tu) (sAnd ft fu) := ⟨pw_and h.p h2.p, sem_and h.ok h2.ok⟩
theorem sw_or {rest : List Expr} (h : ST X K a tt ft) (h2 : SW X K (.BoolOp .Or (b :: rest) pos) tu fu) : SW X K (.BoolOp .Or (a :: b :: rest) pos) (tOr tt tu) (sOr ft fu) := ⟨pw_or h.p h2.p, sem_or h.ok h2.ok⟩
theorem st_not (h : ST X K a tt ft) : ST X K (.UnaryOp .Not a pos) (tNot tt) (sNot ft) := ⟨pt_not h.p, sem_not h.ok⟩
theorem se_one {op} (h : SE X K a ta fa) : SE X K (.BoolOp op [a] pos) ta fa := ⟨pe_one h.p, h.ok⟩
theorem se_and {rest : List Expr} (h : SE X K a ta fa) (h2 : SE X K (.BoolOp .And (b :: rest) pos) tb fb) : SE X K (.BoolOp .And (a :: b :: rest) pos) (tAndV ta tb) (sAndV fa fb) := ⟨pe_and h.p h2.p, sem_andV h.ok h2.ok⟩
theorem se_or {rest : List Expr} (h : SE X K a ta fa) (h2 : SE X K (.BoolOp .Or (b :: rest) pos) tb fb) : SE X K (.BoolOp .Or (a :: b :: rest) pos) (tOrV ta tb) (sOrV fa fb) := ⟨pe_or h.p h2.p, sem_orV h.ok h2.ok⟩
theorem se_not (h : SE X K a ta fa) : SE X K (.UnaryOp .Not a pos) (tNotV ta) (sNotV fa) := ⟨pe_not h.p, sem_notV h.ok⟩
theorem se_if (hc : ST X K c tt ft) (h : SE X K a ta fa) (h2 : SE X K b tb fb) : SE X K (.IfExp c a b pos) (tIf tt ta tb) (sIf ft fa fb) := ⟨pe_ifExp hc.p h.p h2.p, sem_if hc.ok h.ok h2.ok⟩
theorem se_chain {op op' : CmpOp} {r r' : R2} {g g' : PyData → PyData → Option PyData} (ho : L2.OpR X (compareOp op) r) (hv : V2 K r g) (ho' : L2.OpR X (compareOp op') r') (hv' : V2 K r' g') (ha : SE X K a ta fa) (hb : SE X K b tb fb) (hc : SE X K c tc fc) (hm : lastMarks [op, op'] [b, c] = false := by rfl) :
    SE X K (.Compare a [op, op'] [b, c] pos) (tChain r r' ta tb tc) (sChain g g' fa fb fc) := ⟨pe_chain ho ho' ha.p hb.p hc.p hm, sem_chain hv hv' ha.ok hb.ok hc.ok⟩
theorem st_chain {op op' : CmpOp} {r r' : R2} {g g' : PyData → PyData → Option PyData} (ho : L2.OpR X (compareOp op) r) (hv : V2 K r g) (ho' : L2.OpR X (compareOp op') r') (hv' : V2 K r' g') (ha : SE X K a ta fa) (hb : SE X K b tb fb) (hc : SE X K c tc fc) (hm : lastMarks [op, op'] [b, c] = false := by rfl) :
    ST X K (.Compare a [op, op'] [b, c] pos) (tTest (tChain r r' ta tb tc)) (sTest (sChain g g' fa fb fc)) := ⟨pt_chain ho ho' ha.p hb.p hc.p hm, sem_test (sem_chain hv hv' ha.ok hb.ok hc.ok)⟩
theorem se_un {op : UnaryOp} {r : V → Hp → VK → Prop} {g : PyData → Option PyData} (ho : UnR X (unaryOp op) r) (hv : V1 K r g) (ha : SE X K a ta fa) : SE X K (.UnaryOp op a pos) (tUn r ta) (sUn g fa) := ⟨pe_un ho ha.p, sem_un hv ha.ok⟩
theorem se_tup {k} (h : SA X K es tA fs) : SE X K (.Tuple es k pos) (tTup tA) (sTup fs) := ⟨pe_tup h.p, sem_tup h.ok⟩
theorem sl_lst (h : SA X K es tA fs) : SL X K (.List es pos) (tLst tA) (sLst fs) := ⟨pe_lst h.p, sem_lst h.ok⟩
theorem se_cb {x : Str} {p : Pos} {id : String} {r : List V → Hp → VK → Prop} {g : List PyData → Option PyData} (hc : CallR X (.builtin id) r) (hv : VN K r g) (hm : X.mg x = none) (hb : bootBuiltins x = some (.builtin id)) (ha : SA X K (e :: es) tA fs) (hg : Gl X x := by rfl)
    (hn : x ≠ "__name__" := by decide) (hdb : (x == ("__debug__" : Str)) = false := by decide) (he : starEach (e :: es) X.env = (false, eval e X.env) :: starEach es X.env := by rfl) (hpl : (backTo pos (starEach es X.env)).any (·.1) = false := by rfl) : SE X K (.Call (.Name x p) (e :: es) [] pos) (tCB r tA) (sCB g fs) :=
  ⟨pe_callB hc hg hm hb ha.p hn hdb he hpl, sem_cb hv ha.ok⟩
theorem se_ct {x : Str} {p : Pos} {T : String} {r : List V → Hp → VK → Prop} {g : List PyData → Option PyData} (hc : CallR X (.type T) r) (hv : VN K r g) (hm : X.mg x = none) (hb : bootBuiltins x = some (.type T)) (ha : SA X K (e :: es) tA fs) (hg : Gl X x := by rfl)
    (hn : x ≠ "__name__" := by decide) (hdb : (x == ("__debug__" : Str)) = false := by decide) (he : starEach (e :: es) X.env = (false, eval e X.env) :: starEach es X.env := by rfl) (hpl : (backTo pos (starEach es X.env)).any (·.1) = false := by rfl) : SE X K (.Call (.Name x p) (e :: es) [] pos) (tCB r tA) (sCB g fs) :=
  ⟨pe_callTy hc hg hm hb ha.p hn hdb he hpl, sem_cb hv ha.ok⟩
theorem sl_cb {x : Str} {p : Pos} {id : String} {r : List V → Hp → VK → Prop} {g : List PyData → Option (List PyData)} (hc : CallR X (.builtin id) r) (hv : VL K r g) (hm : X.mg x = none) (hb : bootBuiltins x = some (.builtin id)) (ha : SA X K (e :: es) tA fs) (hg : Gl X x := by rfl)
    (hn : x ≠ "__name__" := by decide) (hdb : (x == ("__debug__" : Str)) = false := by decide) (he : starEach (e :: es) X.env = (false, eval e X.env) :: starEach es X.env := by rfl) (hpl : (backTo pos (starEach es X.env)).any (·.1) = false := by rfl) : SL X K (.Call (.Name x p) (e :: es) [] pos) (tCB r tA) (sCBL g fs) :=
  ⟨pe_callB hc hg hm hb ha.p hn hdb he hpl, sem_cbl hv ha.ok⟩
theorem sl_ct {x : Str} {p : Pos} {T : String} {r : List V → Hp → VK → Prop} {g : List PyData → Option (List PyData)} (hc : CallR X (.type T) r) (hv : VL K r g) (hm : X.mg x = none) (hb : bootBuiltins x = some (.type T)) (ha : SA X K (e :: es) tA fs) (hg : Gl X x := by rfl)
    (hn : x ≠ "__name__" := by decide) (hdb : (x == ("__debug__" : Str)) = false := by decide) (he : starEach (e :: es) X.env = (false, eval e X.env) :: starEach es X.env := by rfl) (hpl : (backTo pos (starEach es X.env)).any (·.1) = false := by rfl) : SL X K (.Call (.Name x p) (e :: es) [] pos) (tCB r tA) (sCBL g fs) :=
  ⟨pe_callTy hc hg hm hb ha.p hn hdb he hpl, sem_cbl hv ha.ok⟩
end
end DL

set_option Elab.async false
set_option linter.all false
set_option maxRecDepth 100000
set_option maxHeartbeats 4000000
/-! DL, part 3: frames within frames, targets, walks, comprehensions, statements. -/
namespace DL
open PySem PySem.Spec PyProof.Rows L2

/-! ### frames within frames -/
section
variable {K : PySem.W.Frag} {F F' : Fr} {S S' T : List SD} {σ σ' : L2.St} {H G H' G' : Hp}
theorem SR.back (r : SR K F S σ H G) (r' : SR K F' S' σ' H' G') (h0 : F'.H0 = H) (g0 : F'.G0 = G)
    (hown : ∀ a, F'.B a → ∃ (j : Nat) (c : Bool) (ys : List PyData), S[j]? = some (.own c ys) ∧ σ[j]? = some (some (.ref a)))
    (hT : T.length = S.length) (hTd : ∀ (j : Nat) x, T[j]? = some (.d x) → S[j]? = some (.d x))
    (hTo : ∀ (j : Nat) (b : Bool) (xs : List PyData), T[j]? = some (.own b xs) → (∃ ys, S[j]? = some (.own b ys)) ∧ ∃ a, σ[j]? = some (some (.ref a)) ∧
      ((∃ i : Nat, S'[i]? = some (.own true xs) ∧ F'.s0[i]? = some (some (.ref a))) ∨ (S[j]? = some (.own b xs) ∧ ¬ F'.B a))) : SR K F T σ H' G' := by
  subst h0 g0
  refine ⟨by rw [r.len, hT], r.g0.trans r'.g0, r'.gh, fun b h => ?_, fun b o h n => ?_, fun b h => r'.live b (r.live b h), fun j x e => ?_, fun j b xs e => ?_, fun i j a b1 x1 b2 x2 e1 e2 e3 e4 => ?_⟩
  · rcases r'.new b h with q | q
    · exact r.new b q
    · cases z : F.H0 b with
      | none => exact .inr rfl
      | some o => exact absurd q (r.live b (by rw [z]; simp))
  · refine r'.keep b o (r.keep b o h n) fun hb => ?_
    obtain ⟨j, c, ys, q1, q2⟩ := hown b hb
    obtain ⟨a, vs, p1, _, _, _, p5, p6⟩ := r.own j c ys q1
    rw [q2] at p1
    cases p1
    cases c with
    | true => exact n (p5 rfl).1
    | false => rw [p6 rfl] at h; cases h
  · obtain ⟨v, h1, h2⟩ := r.dat j x (hTd j x e)
    exact ⟨v, h1, h2.mono r'.g0⟩
  · obtain ⟨⟨ys, q1⟩, a, q2, q3⟩ := hTo j b xs e
    obtain ⟨a', vs, p1, p2, p3, p4, p5, p6⟩ := r.own j b ys q1
    rw [q2] at p1
    cases p1
    rcases q3 with ⟨i, z1, z2⟩ | ⟨z1, z2⟩
    · obtain ⟨c, ws, t1, t2, t3, t4, t5, _⟩ := r'.own i _ _ z1
      have t6 := (t5 rfl).2
      rw [z2] at t6
      cases t6
      exact ⟨a, ws, q2, t2, t3, t4, p5, p6⟩
    · rw [q1] at z1
      cases z1
      refine ⟨a, vs, q2, ?_, r'.keep a _ p3 z2, p4.mono r'.g0, p5, p6⟩
      cases z : G' a with
      | none => rfl
      | some o =>
        rcases r'.new a (by rw [z]; simp) with q | q
        · exact absurd p2 q
        · rw [p3] at q; cases q
  · obtain ⟨⟨y1, z1⟩, _⟩ := hTo i b1 x1 e1
    obtain ⟨⟨y2, z2⟩, _⟩ := hTo j b2 x2 e2
    exact r.sep i j a b1 y1 b2 y2 z1 z2 e3 e4
/-- an object of ours that no slot tells is written -/
theorem SR.side (r : SR K F S σ H G) {p : Addr} {o : HO} (h0 : F.H0 p = none) (hg : G p = none) (ap : Apart S σ p) : SR K F S σ (upd H p o) G := by
  refine ⟨r.len, r.g0, fun c u q => ?_, r.new, fun c u q n => ?_, fun c q => ?_, r.dat, fun j b xs e => ?_, r.sep⟩
  · rw [upd_ne (ne_of_none q hg)]; exact r.gh c u q
  · rw [upd_ne (ne_of_none q h0)]; exact r.keep c u q n
  · by_cases hc : c = p
    · subst hc; rw [upd_same]; simp
    · rw [upd_ne hc]; exact r.live c q
  · obtain ⟨a, vs, p1, p2, p3, p4⟩ := r.own j b xs e
    refine ⟨a, vs, p1, p2, ?_, p4⟩
    have na : a ≠ p := fun z => by subst z; exact ap j _ _ e p1
    rw [upd_ne na]; exact p3
end

/-- own lists are lent -/
def bor : SD → SD
  | .own _ xs => .own true xs
  | s => s
/-- .. but for the places vs, of which nothing is told -/
def borGo (vs : List Nat) : Nat → List SD → List SD
  | _, [] => []
  | j, s :: S => (if j ∈ vs then .un else bor s) :: borGo vs (j + 1) S
def unb1 : SD → SD → SD
  | .own b _, .own true xs => .own b xs
  | .own _ _, _ => .un
  | s, _ => s
def unbGo (vs : List Nat) : Nat → List SD → List SD → List SD
  | j, s :: S, s' :: S' => (if j ∈ vs then s else unb1 s s') :: unbGo vs (j + 1) S S'
  | _, S, [] => S.map fun _ => .un
  | _, [], _ => []
theorem borGo_get (vs : List Nat) : ∀ (S : List SD) (k i : Nat), (borGo vs k S)[i]? = (S[i]?).map fun s => if k + i ∈ vs then .un else bor s
  | [], _, _ => by simp [borGo]
  | s :: S, k, 0 => by simp [borGo]
  | s :: S, k, i + 1 => by
    have ih := borGo_get vs S (k + 1) i
    have e : k + 1 + i = k + (i + 1) := by omega
    rw [e] at ih
    simpa [borGo] using ih
theorem unbGo_len (vs : List Nat) : ∀ (S S' : List SD) (k : Nat), (unbGo vs k S S').length = S.length
  | [], [], _ => rfl
  | [], _ :: _, _ => rfl
  | _ :: _, [], _ => by simp [unbGo]
  | s :: S, s' :: S', k => by simp [unbGo, unbGo_len vs S S' (k + 1)]
theorem unbGo_d (vs : List Nat) : ∀ (S S' : List SD) (k i : Nat) (x : PyData), (unbGo vs k S S')[i]? = some (.d x) → S[i]? = some (.d x)
  | [], [], _, _, _, h => by simp [unbGo] at h
  | [], _ :: _, _, _, _, h => by simp [unbGo] at h
  | _ :: _, [], _, i, _, h => by
    simp only [unbGo, List.getElem?_map] at h
    obtain ⟨_, _, h⟩ := Option.map_eq_some_iff.mp h
    cases h
  | s :: S, s' :: S', k, 0, x, h => by
    simp only [unbGo, List.getElem?_cons_zero, Option.some.injEq] at h ⊢
    split at h
    · exact h
    · cases s with
      | own b xs => cases s' with
        | own c ys => cases c <;> cases h
        | _ => cases h
      | _ => exact h
  | s :: S, s' :: S', k, i + 1, x, h => by
    simp only [unbGo, List.getElem?_cons_succ] at h ⊢
    exact unbGo_d vs S S' (k + 1) i x h
theorem unbGo_own (vs : List Nat) : ∀ (S S' : List SD) (k i : Nat) (b : Bool) (xs : List PyData), (unbGo vs k S S')[i]? = some (.own b xs) →
    (k + i ∈ vs ∧ S[i]? = some (.own b xs)) ∨ (k + i ∉ vs ∧ (∃ ys, S[i]? = some (.own b ys)) ∧ S'[i]? = some (.own true xs))
  | [], [], _, _, _, _, h => by simp [unbGo] at h
  | [], _ :: _, _, _, _, _, h => by simp [unbGo] at h
  | _ :: _, [], _, i, _, _, h => by
    simp only [unbGo, List.getElem?_map] at h
    obtain ⟨_, _, h⟩ := Option.map_eq_some_iff.mp h
    cases h
  | s :: S, s' :: S', k, 0, b, xs, h => by
    simp only [unbGo, List.getElem?_cons_zero, Option.some.injEq] at h ⊢
    by_cases hk : k ∈ vs
    · rw [if_pos hk] at h
      exact .inl ⟨hk, h⟩
    · rw [if_neg hk] at h
      cases s with
      | own b' xs' => cases s' with
        | own c ys => cases c with
          | true => cases h; exact .inr ⟨hk, ⟨_, rfl⟩, rfl⟩
          | false => cases h
        | _ => cases h
      | _ => cases h
  | s :: S, s' :: S', k, i + 1, b, xs, h => by
    simp only [unbGo, List.getElem?_cons_succ] at h ⊢
    have ih := unbGo_own vs S S' (k + 1) i b xs h
    have e : k + 1 + i = k + (i + 1) := by omega
    rw [e] at ih
    exact ih
theorem wipe_get (σ : L2.St) (i : Nat) : ∀ vs : List Nat, i ∉ vs → (wipe σ vs)[i]? = σ[i]?
  | [], _ => rfl
  | v :: vs, h => by
    have h1 : v ≠ i := fun e => h (by simp [e])
    unfold wipe
    rw [List.getElem?_set_ne h1]
    exact wipe_get σ i vs fun z => h (List.mem_cons_of_mem _ z)
theorem wipe_get_in (σ : L2.St) (i : Nat) : ∀ vs : List Nat, i ∈ vs → (wipe σ vs)[i]? = (σ[i]?).map fun _ => none
  | [], h => absurd h (by simp)
  | v :: vs, h => by
    unfold wipe
    by_cases e : v = i
    · subst e
      by_cases hl : v < σ.length
      · rw [List.getElem?_set_self (by rw [wipe_length]; exact hl), List.getElem?_eq_getElem hl]; rfl
      · rw [List.getElem?_eq_none (by rw [List.length_set, wipe_length]; omega), List.getElem?_eq_none (by omega)]; rfl
    · rw [List.getElem?_set_ne e]
      rcases List.mem_cons.mp h with q | q
      · exact absurd q.symm e
      · exact wipe_get_in σ i vs q
theorem wipe_ext {σ σ' : L2.St} {vs : List Nat} (h : ∀ i, i ∉ vs → σ[i]? = σ'[i]?) (hl : σ.length = σ'.length) : wipe σ vs = wipe σ' vs := by
  apply List.ext_getElem?
  intro i
  by_cases hi : i ∈ vs
  · rw [wipe_get_in _ _ _ hi, wipe_get_in _ _ _ hi]
    by_cases q : i < σ.length
    · rw [List.getElem?_eq_getElem q, List.getElem?_eq_getElem (by omega)]; rfl
    · rw [List.getElem?_eq_none (by omega), List.getElem?_eq_none (by omega)]
  · rw [wipe_get _ _ _ hi, wipe_get _ _ _ hi]
    exact h i hi
/-- slots that are the same but at places of vs -/
def Bt (vs : List Nat) (σ σ' : L2.St) : Prop := σ.length = σ'.length ∧ ∀ i, i ∉ vs → σ[i]? = σ'[i]?
theorem Bt.refl (vs : List Nat) (σ : L2.St) : Bt vs σ σ := ⟨rfl, fun _ _ => rfl⟩
theorem Bt.trans {vs : List Nat} {a b c : L2.St} (h : Bt vs a b) (g : Bt vs b c) : Bt vs a c := ⟨h.1.trans g.1, fun i hi => (h.2 i hi).trans (g.2 i hi)⟩
theorem Bt.set {vs : List Nat} {σ : L2.St} {i : Nat} {o : Option V} (h : i ∈ vs) : Bt vs σ (σ.set i o) := ⟨by simp, fun j hj => by rw [List.getElem?_set_ne]; intro e; subst e; exact hj h⟩
theorem Bt.wiped {vs : List Nat} {σ : L2.St} : Bt vs σ (wipe σ vs) := ⟨(wipe_length σ vs).symm, fun i hi => (wipe_get σ i vs hi).symm⟩
section
variable {K : PySem.W.Frag} {F F' : Fr} {S S' T : List SD} {σ σ' : L2.St} {H G H' G' : Hp}
/-- the frame of a block (a comprehension's; vs its own names) -/
def Fr.blk (vs : List Nat) (S : List SD) (σ : L2.St) (H G : Hp) : Fr := ⟨H, G, borGo vs 0 S, wipe σ vs⟩
theorem bor_own {s : SD} {b : Bool} {xs : List PyData} (h : bor s = .own b xs) : b = true ∧ ∃ c, s = .own c xs := by
  cases s with
  | own c ys => cases h; exact ⟨rfl, c, rfl⟩
  | _ => cases h
theorem blk_own {vs : List Nat} {i : Nat} {b : Bool} {xs : List PyData} (h : (borGo vs 0 S)[i]? = some (.own b xs)) : i ∉ vs ∧ b = true ∧ ∃ c, S[i]? = some (.own c xs) := by
  rw [borGo_get, Nat.zero_add] at h
  obtain ⟨s, h1, h2⟩ := Option.map_eq_some_iff.mp h
  by_cases hi : i ∈ vs
  · rw [if_pos hi] at h2; cases h2
  · rw [if_neg hi] at h2
    obtain ⟨e, c, q⟩ := bor_own h2
    subst q
    exact ⟨hi, e, c, h1⟩
theorem SR.sub (r : SR K F S σ H G) (vs : List Nat) : SR K (Fr.blk vs S σ H G) (borGo vs 0 S) (wipe σ vs) H G := by
  have own : ∀ (i : Nat) (b : Bool) (xs : List PyData), (borGo vs 0 S)[i]? = some (.own b xs) → ∃ c, i ∉ vs ∧ b = true ∧ S[i]? = some (.own c xs) ∧ (wipe σ vs)[i]? = σ[i]? := fun i b xs e => by
    obtain ⟨h1, h2, c, h3⟩ := blk_own e
    exact ⟨c, h1, h2, h3, wipe_get σ i vs h1⟩
  refine ⟨?_, .refl _, r.gh, fun b h => .inl h, fun b o h _ => h, fun b h => h, fun i x e => ?_, fun i b xs e => ?_, fun i j a b1 x1 b2 x2 e1 e2 e3 e4 => ?_⟩
  · rw [wipe_length, r.len]
    have h : ∀ (S : List SD) (k : Nat), (borGo vs k S).length = S.length := fun S => by
      induction S with
      | nil => intro k; rfl
      | cons s S ih => intro k; simp [borGo, ih]
    exact (h S 0).symm
  · rw [borGo_get, Nat.zero_add] at e
    obtain ⟨s, h1, h2⟩ := Option.map_eq_some_iff.mp e
    by_cases hi : i ∈ vs
    · rw [if_pos hi] at h2; cases h2
    · rw [if_neg hi] at h2
      have hs : s = .d x := by
        cases s with
        | own c ys => cases h2
        | _ => exact h2
      subst hs
      rw [wipe_get σ i vs hi]
      exact r.dat i x h1
  · obtain ⟨c, hi, hb, h3, h4⟩ := own i b xs e
    obtain ⟨a, ws, p1, p2, p3, p4, _⟩ := r.own i c xs h3
    refine ⟨a, ws, h4.trans p1, p2, p3, p4, fun _ => ⟨⟨i, b, xs, e, h4.trans p1⟩, h4.trans p1⟩, fun q => ?_⟩
    rw [hb] at q; cases q
  · obtain ⟨c1, _, _, h3, h4⟩ := own i b1 x1 e1
    obtain ⟨c2, _, _, h5, h6⟩ := own j b2 x2 e2
    rw [h4] at e3
    rw [h6] at e4
    exact r.sep i j a c1 x1 c2 x2 h3 h5 e3 e4
theorem blk_B {vs : List Nat} {a : Addr} (h : (Fr.blk vs S σ H G).B a) : ∃ (j : Nat) (c : Bool) (ys : List PyData), j ∉ vs ∧ S[j]? = some (.own c ys) ∧ σ[j]? = some (some (.ref a)) := by
  obtain ⟨i, b, xs, h1, h2⟩ := h
  obtain ⟨h3, _, c, h5⟩ := blk_own h1
  have h2 : (wipe σ vs)[i]? = some (some (.ref a)) := h2
  rw [wipe_get σ i vs h3] at h2
  exact ⟨i, c, xs, h3, h5, h2⟩
/-- behind the block -/
theorem SR.unsub (r : SR K F S σ H G) {vs : List Nat} (r' : SR K (Fr.blk vs S σ H G) S' σ' H' G') : SR K F (unbGo vs 0 S S') σ H' G' := by
  refine r.back r' rfl rfl (fun a h => ?_) (unbGo_len vs S S' 0) (fun j x h => unbGo_d vs S S' 0 j x h) fun j b xs h => ?_
  · obtain ⟨j, c, ys, _, h1, h2⟩ := blk_B h
    exact ⟨j, c, ys, h1, h2⟩
  · rcases unbGo_own vs S S' 0 j b xs h with ⟨hj, h1⟩ | ⟨hj, ⟨ys, h1⟩, h2⟩
    · rw [Nat.zero_add] at hj
      obtain ⟨a, ws, p1, _⟩ := r.own j b xs h1
      refine ⟨⟨_, h1⟩, a, p1, .inr ⟨h1, fun q => ?_⟩⟩
      obtain ⟨i, c, zs, q1, q2, q3⟩ := blk_B q
      have e := r.sep i j a _ _ _ _ q2 h1 q3 p1
      subst e
      exact q1 hj
    · rw [Nat.zero_add] at hj
      obtain ⟨a, ws, p1, _⟩ := r.own j b ys h1
      exact ⟨⟨_, h1⟩, a, p1, .inl ⟨j, h2, by show (wipe σ vs)[j]? = _; rw [wipe_get σ j vs hj]; exact p1⟩⟩
/-- what a block leaves alone: an object of ours that no slot tells -/
theorem SR.aside (r : SR K F S σ H G) {vs : List Nat} (r' : SR K (Fr.blk vs S σ H G) S' σ' H' G') {p : Addr} {o : HO} (hp : H p = some o) (hg : G p = none) (ap : Apart S σ p) : H' p = some o ∧ G' p = none := by
  constructor
  · refine r'.keep p o hp fun q => ?_
    obtain ⟨j, c, ys, _, h1, h2⟩ := blk_B q
    exact ap j _ _ h1 h2
  · cases z : G' p with
    | none => rfl
    | some u =>
      rcases r'.new p (by rw [z]; simp) with q | q
      · exact absurd hg q
      · have q : H p = none := q
        rw [hp] at q; cases q
theorem apart_unb {vs : List Nat} {p : Addr} (ap : Apart S σ p) : Apart (unbGo vs 0 S S') σ p := fun i b xs h => by
  rcases unbGo_own vs S S' 0 i b xs h with ⟨_, h1⟩ | ⟨_, ⟨ys, h1⟩, _⟩
  · exact ap i b xs h1
  · exact ap i b ys h1
end

/-! ### targets -/
abbrev GS := PyData → List SD → Option (List SD)
def SemG (K : PySem.W.Frag) (t : TG) (ix : List Nat) (g : GS) : Prop := ∀ F S σ H G v x S', SR K F S σ H G → Rp K G v x → g x S = some S' → ∀ Q : L2.St → Hp → Prop, (∀ σ' H' G', SR K F S' σ' H' G' → Ex G G' → Bt ix σ σ' → Q σ' H') → t v σ H Q
def SemGs (K : PySem.W.Frag) (t : TGs) (ix : List Nat) (g : List PyData → List SD → Option (List SD)) : Prop := ∀ F S σ H G vs xs S', SR K F S σ H G → RpAll K G vs xs → g xs S = some S' → ∀ Q : L2.St → Hp → Prop, (∀ σ' H' G', SR K F S' σ' H' G' → Ex G G' → Bt ix σ σ' → Q σ' H') → t vs σ H Q
structure SG (X : Cx) (K : PySem.W.Frag) (e : Expr) (t : TG) (ix : List Nat) (g : GS) : Prop where
  p : PG X e t
  ok : SemG K t ix g
structure SGs (X : Cx) (K : PySem.W.Frag) (es : List Expr) (t : TGs) (ix : List Nat) (g : List PyData → List SD → Option (List SD)) : Prop where
  p : PGs X es t
  ok : SemGs K t ix g
def gsName (i : Nat) : GS := fun x S => some (S.set i (.d x))
theorem Bt.mono {vs ws : List Nat} {σ σ' : L2.St} (h : Bt vs σ σ') (s : ∀ i ∈ vs, i ∈ ws) : Bt ws σ σ' := ⟨h.1, fun i hi => h.2 i fun z => hi (s i z)⟩
theorem sem_gname {K : PySem.W.Frag} {i : Nat} : SemG K (gName i) [i] (gsName i) := fun F S σ H G v x S' r h e Q k => by
  cases e
  exact k _ H G (r.setD i h) (.refl _) (.set (by simp))
def gsNil : List PyData → List SD → Option (List SD)
  | [], S => some S
  | _, _ => none
def gsCons (g : GS) (gs : List PyData → List SD → Option (List SD)) : List PyData → List SD → Option (List SD)
  | x :: xs, S => (g x S).bind fun S1 => gs xs S1
  | [], _ => none
theorem sem_gnil {K : PySem.W.Frag} : SemGs K gNil [] gsNil := fun F S σ H G vs xs S' r h e Q k => by
  cases h with
  | nil => cases e; exact ⟨rfl, k _ H G r (.refl _) (.refl _ _)⟩
  | cons _ _ => cases e
theorem sem_gcons {K : PySem.W.Frag} {t : TG} {u : TGs} {ix iy : List Nat} {g : GS} {gs : List PyData → List SD → Option (List SD)} (h1 : SemG K t ix g) (h2 : SemGs K u iy gs) : SemGs K (gCons t u) (ix ++ iy) (gsCons g gs) := fun F S σ H G vs xs S' r h e Q k => by
  cases h with
  | nil => cases e
  | cons h t' =>
    obtain ⟨S1, e1, e2⟩ := Option.bind_eq_some_iff.mp e
    refine ⟨_, _, rfl, h1 F S σ H G _ _ S1 r h e1 _ fun σ1 H1 G1 r1 g1 b1 => ?_⟩
    refine h2 F S1 σ1 H1 G1 _ _ S' r1 (t'.mono g1) e2 _ fun σ2 H2 G2 r2 g2 b2 => ?_
    exact k σ2 H2 G2 r2 (g1.trans g2) ((b1.mono fun i hi => List.mem_append_left _ hi).trans (b2.mono fun i hi => List.mem_append_right _ hi))
def dTup : PyData → Option (List PyData)
  | .tuple xs => some xs
  | _ => none
theorem dTup_some {x : PyData} {xs : List PyData} (h : dTup x = some xs) : x = .tuple xs := by
  cases x with
  | tuple c => cases h; rfl
  | _ => cases h
def gsTup (n : Nat) (gs : List PyData → List SD → Option (List SD)) : GS := fun x S => (dTup x).bind fun xs => if xs.length = n then gs xs S else none
theorem sem_gtup {K : PySem.W.Frag} {u : TGs} {ix : List Nat} {n : Nat} {gs : List PyData → List SD → Option (List SD)} (h2 : SemGs K u ix gs) : SemG K (gTup K n u) ix (gsTup n gs) := fun F S σ H G v x S' r h e Q k => by
  obtain ⟨xs, e1, e2⟩ := Option.bind_eq_some_iff.mp e
  have hx := dTup_some e1
  subst hx
  split at e2
  · rename_i hn
    cases h with
    | tup ht ha => exact ⟨_, _, rfl, r.gh.st ht, by rw [ha.length]; exact hn, h2 F S σ H G _ _ S' r ha e2 Q k⟩
  · cases e2
section
variable {X : Cx} {K : PySem.W.Frag} {e : Expr} {es : List Expr} {pos : Pos} {t : TG} {u : TGs} {ix iy : List Nat} {g : GS} {gs : List PyData → List SD → Option (List SD)}
theorem sg_name {i : Nat} {x : Str} (hN : X.N.Nodup) (hi : X.N[i]? = some x := by rfl) (hx : Loc X.env.scope x := by first | exact Or.inl rfl | exact Or.inr rfl) (hf : X.fn x = true ∨ X.env.scope.names.lookup x = some .local := by first | exact Or.inl rfl | exact Or.inr rfl) : SG X K (.Name x pos) (gName i) [i] (gsName i) := ⟨pg_name hN hi hx hf, sem_gname⟩
theorem sgs_nil : SGs X K [] gNil [] gsNil := ⟨pgs_nil, sem_gnil⟩
theorem sgs_cons (h1 : SG X K e t ix g) (h2 : SGs X K es u iy gs) (hs : (assignEach (e :: es) X.env).map (·.2) = assign e X.env :: (assignEach es X.env).map (·.2) := by rfl) : SGs X K (e :: es) (gCons t u) (ix ++ iy) (gsCons g gs) := ⟨pgs_cons h1.p h2.p hs, sem_gcons h1.ok h2.ok⟩
theorem sg_tup {k n : Nat} (hK : X.K = K) (hc : X.calm = true) (h : SGs X K es u ix gs) (hn : (assignEach es X.env).length = n := by rfl) (hst : (assignEach es X.env).findIdx? (·.1) = none := by rfl) : SG X K (.Tuple es k pos) (gTup K n u) ix (gsTup n gs) := by
  subst hK
  exact ⟨pg_tup hc h.p hn hst, sem_gtup h.ok⟩
end

/-! ### what is walked -/
/-- J yields the items, one after another, whatever else grows -/
def Wk (K : PySem.W.Frag) (G1 : Hp) (J : It) (items : List PyData) : Prop := ∀ G H, Ex G1 G → Ex G H → ∀ i, (i < items.length → J.go i H ∧ ∀ v H', J.yld i H v H' → ∃ G' x, items[i]? = some x ∧ PX G H G' H' ∧ Rp K G' v x) ∧ (i = items.length → J.stop i H)
def SemI (K : PySem.W.Frag) (wi : TI) (f : LS) : Prop := ∀ F S σ H G xs S', SR K F S σ H G → f S = some (xs, S') → ∀ R : It → Hp → Prop, (∀ J H' G', SR K F S' σ H' G' → Ex G G' → Wk K G' J xs → R J H') → wi σ H R
structure SI (X : Cx) (K : PySem.W.Frag) (tg iter : Expr) (wi : TI) (f : LS) : Prop where
  p : PI X tg iter wi
  ok : SemI K wi f

/-! ### statements -/
inductive Out where
  | nx (S : List SD)
  | bk (S : List SD)
  | ct (S : List SD)
  | rt (r : SD) (S : List SD)
abbrev SSem := List SD → Option Out
def OutR (K : PySem.W.Frag) (F : Fr) (G : Hp) (D : Ends) : Out → Prop
  | .nx S => ∀ σ H G', SR K F S σ H G' → Ex G G' → D.nx σ H
  | .bk S => ∀ σ H G', SR K F S σ H G' → Ex G G' → D.bk σ H
  | .ct S => ∀ σ H G', SR K F S σ H G' → Ex G G' → D.ct σ H
  | .rt r S => ∀ v σ H G', SR K F (S ++ [r]) (σ ++ [some v]) H G' → Ex G G' → D.rt v H
def SemS (K : PySem.W.Frag) (t : TS) (f : SSem) : Prop := ∀ F S σ H G out, SR K F S σ H G → f S = some out → ∀ D : Ends, OutR K F G D out → t D σ H
structure SS (X : Cx) (K : PySem.W.Frag) (st : Stmt) (t : TS) (f : SSem) : Prop where
  p : PS X st t
  ok : SemS K t f
structure SSs (X : Cx) (K : PySem.W.Frag) (st : List Stmt) (t : TS) (f : SSem) : Prop where
  p : PSs X st t
  ok : SemS K t f
section
variable {K : PySem.W.Frag} {F : Fr} {G G' : Hp} {D : Ends} {o : Out}
theorem OutR.mono (h : OutR K F G D o) (e : Ex G G') : OutR K F G' D o := by
  cases o with
  | nx S => exact fun σ H G2 r x => h σ H G2 r (e.trans x)
  | bk S => exact fun σ H G2 r x => h σ H G2 r (e.trans x)
  | ct S => exact fun σ H G2 r x => h σ H G2 r (e.trans x)
  | rt r S => exact fun v σ H G2 r x => h v σ H G2 r (e.trans x)
/-- what follows put in nx's place -/
theorem OutR.nxt {N : L2.St → Hp → Prop} (h : OutR K F G D o) (hn : ∀ S, o = .nx S → ∀ σ H G', SR K F S σ H G' → Ex G G' → N σ H) : OutR K F G { D with nx := N } o := by
  cases o with
  | nx S => exact hn S rfl
  | bk S => exact h
  | ct S => exact h
  | rt r S => exact h
end
def sNext : SSem := fun S => some (.nx S)
def sSeq (f g : SSem) : SSem := fun S => (f S).bind fun o => match o with
  | .nx S1 => g S1
  | o => some o
section
variable {K : PySem.W.Frag} {t u tb : TS} {f f' fb : SSem} {te ta : TE} {tt : TT} {fe : ES} {fl : LS} {fd : DS} {ft : BS} {g : TG} {gs : GS} {ix : List Nat} {wi : TI} {fi : LS}
theorem sem_next : SemS K tNext sNext := fun F S σ H G out r e D h => by
  cases e
  exact h σ H G r (.refl _)
theorem sem_seq (h1 : SemS K t f) (h2 : SemS K u f') : SemS K (tSeq t u) (sSeq f f') := fun F S σ H G out r e D h => by
  obtain ⟨o, e1, e2⟩ := Option.bind_eq_some_iff.mp e
  cases o with
  | nx S1 => exact h1 F S σ H G _ r e1 _ fun σ1 H1 G1 r1 g1 => h2 F S1 σ1 H1 G1 out r1 e2 D (h.mono g1)
  | bk S1 => cases e2; exact h1 F S σ H G _ r e1 _ h
  | ct S1 => cases e2; exact h1 F S σ H G _ r e1 _ h
  | rt v S1 => cases e2; exact h1 F S σ H G _ r e1 _ h
def sBreak : SSem := fun S => some (.bk S)
def sCont : SSem := fun S => some (.ct S)
theorem sem_break : SemS K tBreak sBreak := fun F S σ H G out r e D h => by cases e; exact h σ H G r (.refl _)
theorem sem_cont : SemS K tCont sCont := fun F S σ H G out r e D h => by cases e; exact h σ H G r (.refl _)
def sNever : SSem := fun _ => none
theorem sem_never : SemS K tNever sNever := fun F S σ H G out r e D h => by cases e
def sDrop (fe : ES) : SSem := fun S => (fe S).map fun p => .nx p.2
theorem sem_drop (h1 : SemE K te fe) : SemS K (tDrop te) (sDrop fe) := fun F S σ H G out r e D h => by
  obtain ⟨⟨o, S1⟩, e1, e2⟩ := Option.map_eq_some_iff.mp e
  cases e2
  exact h1 F S σ H G o S1 r e1 _ fun v H1 G1 r1 g1 _ => h σ H1 G1 r1 g1
def sRet (fd : DS) : SSem := fun S => (fd S).map fun p => .rt (.d p.1) p.2
theorem SR.pushD {F : Fr} {S : List SD} {σ : L2.St} {H G : Hp} {v : V} {x : PyData} (r : SR K F S σ H G) (h : Rp K G v x) : SR K F (S ++ [.d x]) (σ ++ [some v]) H G := by
  have L := r.len
  have old : ∀ {i : Nat} {s : SD}, (S ++ [.d x])[i]? = some s → (i < S.length ∧ S[i]? = some s) ∨ (i = S.length ∧ s = .d x) := fun {i s} e => by
    by_cases hi : i < S.length
    · rw [List.getElem?_append_left hi] at e; exact .inl ⟨hi, e⟩
    · rw [List.getElem?_append_right (by omega)] at e
      cases q : i - S.length with
      | zero => rw [q] at e; cases e; exact .inr ⟨by omega, rfl⟩
      | succ n => rw [q] at e; simp at e
  have ow : ∀ {i : Nat} {b : Bool} {xs : List PyData}, (S ++ [.d x])[i]? = some (.own b xs) → S[i]? = some (.own b xs) ∧ (σ ++ [some v])[i]? = σ[i]? := fun {i b xs} e => by
    rcases old e with ⟨h1, h2⟩ | ⟨_, h2⟩
    · exact ⟨h2, List.getElem?_append_left (by omega)⟩
    · cases h2
  refine ⟨by simp [L], r.g0, r.gh, r.new, r.keep, r.live, fun i y e => ?_, fun i b xs e => ?_, fun i j a b1 x1 b2 x2 e1 e2 e3 e4 => ?_⟩
  · rcases old e with ⟨h1, h2⟩ | ⟨h1, h2⟩
    · rw [List.getElem?_append_left (by omega)]; exact r.dat i y h2
    · cases h2
      refine ⟨v, ?_, h⟩
      rw [List.getElem?_append_right (by omega), h1, L]
      simp
  · obtain ⟨h1, h2⟩ := ow e
    rw [h2]; exact r.own i b xs h1
  · obtain ⟨h1, h2⟩ := ow e1
    obtain ⟨h3, h4⟩ := ow e2
    rw [h2] at e3
    rw [h4] at e4
    exact r.sep i j a b1 x1 b2 x2 h1 h3 e3 e4
theorem SR.pushO {F : Fr} {S : List SD} {σ : L2.St} {H G : Hp} {p : Addr} {vs : List V} {xs : List PyData} (r : SR K F S σ H G) (h0 : F.H0 p = none) (hg : G p = none) (ap : Apart S σ p) (hh : H p = some (.lst vs)) (h : RpAll K G vs xs) : SR K F (S ++ [.own false xs]) (σ ++ [some (.ref p)]) H G := by
  have L := r.len
  have old : ∀ {i : Nat} {s : SD}, (S ++ [.own false xs])[i]? = some s → (i < S.length ∧ S[i]? = some s ∧ (σ ++ [some (.ref p)])[i]? = σ[i]?) ∨ (i = S.length ∧ s = .own false xs ∧ (σ ++ [some (.ref p)])[i]? = some (some (.ref p))) := fun {i s} e => by
    by_cases hi : i < S.length
    · rw [List.getElem?_append_left hi] at e; exact .inl ⟨hi, e, List.getElem?_append_left (by omega)⟩
    · rw [List.getElem?_append_right (by omega)] at e
      cases q : i - S.length with
      | zero => rw [q] at e; cases e; exact .inr ⟨by omega, rfl, by rw [List.getElem?_append_right (by omega), L, q]; rfl⟩
      | succ n => rw [q] at e; simp at e
  refine ⟨by simp [L], r.g0, r.gh, r.new, r.keep, r.live, fun i y e => ?_, fun i b ys e => ?_, fun i j a b1 x1 b2 x2 e1 e2 e3 e4 => ?_⟩
  · rcases old e with ⟨h1, h2, h3⟩ | ⟨h1, h2, _⟩
    · rw [h3]; exact r.dat i y h2
    · cases h2
  · rcases old e with ⟨h1, h2, h3⟩ | ⟨h1, h2, h3⟩
    · rw [h3]; exact r.own i b ys h2
    · cases h2
      exact ⟨p, vs, h3, hg, hh, h, (fun q => by cases q), fun _ => h0⟩
  · rcases old e1 with ⟨h1, h2, h3⟩ | ⟨h1, h2, h3⟩ <;> rcases old e2 with ⟨k1, k2, k3⟩ | ⟨k1, k2, k3⟩
    · rw [h3] at e3; rw [k3] at e4
      exact r.sep i j a b1 x1 b2 x2 h2 k2 e3 e4
    · rw [h3] at e3; rw [k3] at e4
      cases e4
      exact absurd e3 (ap i _ _ h2)
    · rw [h3] at e3; rw [k3] at e4
      cases e3
      exact absurd e4 (ap j _ _ k2)
    · omega
theorem sem_ret (h1 : SemD K te fd) : SemS K (tRet te) (sRet fd) := fun F S σ H G out r e D h => by
  obtain ⟨⟨o, S1⟩, e1, e2⟩ := Option.map_eq_some_iff.mp e
  cases e2
  exact h1 F S σ H G o S1 r e1 _ fun v H1 G1 r1 g1 h2 => h v σ H1 G1 (r1.pushD h2) g1
def sRetL (fl : LS) : SSem := fun S => (fl S).map fun p => .rt (.own false p.1) p.2
theorem sem_retL (h1 : SemL K te fl) : SemS K (tRet te) (sRetL fl) := fun F S σ H G out r e D h => by
  obtain ⟨⟨o, S1⟩, e1, e2⟩ := Option.map_eq_some_iff.mp e
  cases e2
  exact h1 F S σ H G o S1 r e1 _ fun p vs H1 G1 r1 g1 h0 hg ap hh h2 => h _ σ H1 G1 (r1.pushO h0 hg ap hh h2) g1
/-- return x, x a slot's own list: it goes to the caller -/
def retS (S : List SD) (i : Nat) : Option SD → Option Out
  | some (.own false xs) => some (.rt (.own false xs) (S.set i .un))
  | some (.d x) => some (.rt (.d x) S)
  | _ => none
def sRetV (i : Nat) : SSem := fun S => retS S i (S[i]?)
theorem sem_retV {i : Nat} : SemS K (tRet (tVar i)) (sRetV i) := fun F S σ H G out r e D h => by
  have e : retS S i (S[i]?) = some out := e
  cases q : S[i]? with
  | none => rw [q] at e; cases e
  | some sd =>
    rw [q] at e
    cases sd with
    | un => cases e
    | d x =>
      cases e
      obtain ⟨v, h1, h2⟩ := r.dat i x q
      exact ⟨v, h1, h v σ H G (r.pushD h2) (.refl _)⟩
    | own b xs =>
      cases b with
      | true => cases e
      | false =>
        cases e
        obtain ⟨a, vs, p1, p2, p3, p4, _, p6⟩ := r.own i _ _ q
        have hi : i < S.length := (List.getElem?_eq_some_iff.mp q).1
        have r2 : SR K F (S.set i .un) σ H G := by
          have := r.forget i (σ[i]'(by rw [r.len]; exact hi))
          rwa [List.set_getElem_self] at this
        have ap : Apart (S.set i .un) σ a := fun j b ys z1 z2 => by
          by_cases hj : i = j
          · subst hj
            rw [List.getElem?_set_self hi] at z1; cases z1
          · rw [List.getElem?_set_ne hj] at z1
            exact hj (r.sep i j a _ _ _ _ q z1 p1 z2)
        exact ⟨_, p1, h _ σ H G (r2.pushO (p6 rfl) p2 ap p3 p4) (.refl _)⟩
def sRetN : SSem := fun S => some (.rt (.d .none) S)
theorem sem_retN : SemS K tRetN sRetN := fun F S σ H G out r e D h => by
  cases e
  exact h .non σ H G (r.pushD .non) (.refl _)
def sAsg (fd : DS) (gs : GS) : SSem := fun S => (fd S).bind fun p => (gs p.1 p.2).map fun S1 => .nx S1
theorem sem_asg (h1 : SemD K te fd) (h2 : SemG K g ix gs) : SemS K (tAsg te g) (sAsg fd gs) := fun F S σ H G out r e D h => by
  obtain ⟨⟨x, S1⟩, e1, e⟩ := Option.bind_eq_some_iff.mp e
  obtain ⟨S2, e2, e3⟩ := Option.map_eq_some_iff.mp e
  cases e3
  exact h1 F S σ H G x S1 r e1 _ fun v H1 G1 r1 g1 hv => h2 F S1 σ H1 G1 v x S2 r1 hv e2 _ fun σ2 H2 G2 r2 g2 _ => h σ2 H2 G2 r2 (g1.trans g2)
def sAsgL (fl : LS) (i : Nat) : SSem := fun S => (fl S).map fun p => .nx (p.2.set i (.own false p.1))
theorem sem_asgL {i : Nat} (h1 : SemL K te fl) : SemS K (tAsg te (gName i)) (sAsgL fl i) := fun F S σ H G out r e D h => by
  obtain ⟨⟨xs, S1⟩, e1, e3⟩ := Option.map_eq_some_iff.mp e
  cases e3
  exact h1 F S σ H G xs S1 r e1 _ fun p vs H1 G1 r1 g1 h0 hg ap hh h2 => h _ H1 G1 (r1.setO i hg hh h2 h0 ap) g1
theorem sem_ifS (hc : SemB K tt ft) (h1 : SemS K t f) (h2 : SemS K u f') : SemS K (tIfS tt t u) (sIf ft f f') := fun F S σ H G out r e D h => by
  obtain ⟨⟨c, S1⟩, e1, e⟩ := Option.bind_eq_some_iff.mp e
  refine hc F S σ H G c S1 r e1 _ fun H1 G1 r1 g1 => ?_
  cases c with
  | true => exact h1 F S1 σ H1 G1 out r1 e D (h.mono g1)
  | false => exact h2 F S1 σ H1 G1 out r1 e D (h.mono g1)
/-! loops -/
def forGo (gs : GS) (fb : SSem) : List PyData → SSem
  | [], S => some (.nx S)
  | x :: xs, S => (gs x S).bind fun S1 => (fb S1).bind fun o => match o with
    | .nx S2 => forGo gs fb xs S2
    | .ct S2 => forGo gs fb xs S2
    | .bk S2 => some (.nx S2)
    | .rt r S2 => some (.rt r S2)
def sFor (fi : LS) (gs : GS) (fb : SSem) : SSem := fun S => (fi S).bind fun p => forGo gs fb p.1 p.2
theorem sem_for (hi : SemI K wi fi) (hg : SemG K g ix gs) (hb : SemS K tb fb) : SemS K (tFor wi g tb) (sFor fi gs fb) := fun F S σ H G out r e D h => by
  obtain ⟨⟨xs, S1⟩, e1, e2⟩ := Option.bind_eq_some_iff.mp e
  refine hi F S σ H G xs S1 r e1 _ fun J H1 G1 r1 g1 wk => ?_
  refine ⟨fun i m σ' H' => i + m = xs.length ∧ ∃ S' G', SR K F S' σ' H' G' ∧ Ex G1 G' ∧ forGo gs fb (xs.drop i) S' = some out, ⟨xs.length, by omega, S1, G1, r1, .refl _, by simpa using e2⟩, fun i m σ' H' ⟨hm, S', G', r', x', ef⟩ => ?_⟩
  obtain ⟨w1, w2⟩ := wk G' H' x' r'.gh i
  by_cases hi : i < xs.length
  · obtain ⟨go, yl⟩ := w1 hi
    have ed : xs.drop i = xs[i] :: xs.drop (i + 1) := List.drop_eq_getElem_cons hi
    rw [ed] at ef
    obtain ⟨S2, q1, ef⟩ := Option.bind_eq_some_iff.mp ef
    obtain ⟨o, q2, ef⟩ := Option.bind_eq_some_iff.mp ef
    refine .inr ⟨go, fun σ2 H2 => ∃ S3 G3, SR K F S3 σ2 H2 G3 ∧ Ex G1 G3 ∧ forGo gs fb (xs.drop (i + 1)) S3 = some out, fun σ2 H2 ⟨S3, G3, r3, x3, e3⟩ => ⟨m - 1, by omega, by omega, S3, G3, r3, x3, e3⟩, fun v H2 hy => ?_⟩
    obtain ⟨G2, x, hx, px, hr⟩ := yl v H2 hy
    rw [List.getElem?_eq_getElem hi] at hx
    cases hx
    refine hg F S' σ' H2 G2 v _ S2 (r'.ext px) hr q1 _ fun σ3 H3 G3 r3 g3 _ => ?_
    have x3 : Ex G1 G3 := (x'.trans px.gg).trans g3
    refine hb F S2 σ3 H3 G3 o r3 q2 _ ?_
    cases o with
    | nx S4 => exact fun σ4 H4 G4 r4 g4 => ⟨S4, G4, r4, x3.trans g4, ef⟩
    | ct S4 => exact fun σ4 H4 G4 r4 g4 => ⟨S4, G4, r4, x3.trans g4, ef⟩
    | bk S4 => cases ef; exact fun σ4 H4 G4 r4 g4 => h σ4 H4 G4 r4 ((g1.trans x3).trans g4)
    | rt rv S4 => cases ef; exact fun v4 σ4 H4 G4 r4 g4 => h v4 σ4 H4 G4 r4 ((g1.trans x3).trans g4)
  · refine .inl ⟨w2 (by omega), ?_⟩
    rw [List.drop_eq_nil_of_le (by omega)] at ef
    cases ef
    exact h σ' H' G' r' (g1.trans x')
def whileGo (ft : BS) (fb : SSem) : Nat → SSem
  | 0, _ => none
  | n + 1, S => (ft S).bind fun p => if p.1 = true then (fb p.2).bind fun o => match o with
    | .nx S2 => whileGo ft fb n S2
    | .ct S2 => whileGo ft fb n S2
    | .bk S2 => some (.nx S2)
    | .rt r S2 => some (.rt r S2) else some (.nx p.2)
def sWhile (n : Nat) (ft : BS) (fb : SSem) : SSem := fun S => whileGo ft fb n S
theorem sem_while {n : Nat} (ht : SemB K tt ft) (hb : SemS K tb fb) : SemS K (tWhile tt tb) (sWhile n ft fb) := fun F S σ H G out r e D h => by
  refine ⟨fun m σ' H' => ∃ S' G', SR K F S' σ' H' G' ∧ Ex G G' ∧ whileGo ft fb m S' = some out, ⟨n, S, G, r, .refl _, e⟩, fun m σ' H' ⟨S', G', r', x', ef⟩ => ?_⟩
  cases m with
  | zero => cases ef
  | succ m =>
    obtain ⟨⟨c, S1⟩, e1, ef⟩ := Option.bind_eq_some_iff.mp ef
    refine ht F S' σ' H' G' c S1 r' e1 _ fun H1 G1 r1 g1 => ?_
    cases c with
    | false => cases ef; exact h σ' H1 G1 r1 (x'.trans g1)
    | true =>
      have ef : ((fb S1).bind fun o => match o with
        | .nx S2 => whileGo ft fb m S2
        | .ct S2 => whileGo ft fb m S2
        | .bk S2 => some (.nx S2)
        | .rt r S2 => some (.rt r S2)) = some out := ef
      obtain ⟨o, q2, ef⟩ := Option.bind_eq_some_iff.mp ef
      refine ⟨fun σ2 H2 => ∃ S3 G3, SR K F S3 σ2 H2 G3 ∧ Ex G G3 ∧ whileGo ft fb m S3 = some out, fun σ2 H2 ⟨S3, G3, r3, x3, e3⟩ => ⟨m, by omega, S3, G3, r3, x3, e3⟩, ?_⟩
      refine hb F S1 σ' H1 G1 o r1 q2 _ ?_
      cases o with
      | nx S4 => exact fun σ4 H4 G4 r4 g4 => ⟨S4, G4, r4, (x'.trans g1).trans g4, ef⟩
      | ct S4 => exact fun σ4 H4 G4 r4 g4 => ⟨S4, G4, r4, (x'.trans g1).trans g4, ef⟩
      | bk S4 => cases ef; exact fun σ4 H4 G4 r4 g4 => h σ4 H4 G4 r4 ((x'.trans g1).trans g4)
      | rt rv S4 => cases ef; exact fun v4 σ4 H4 G4 r4 g4 => h v4 σ4 H4 G4 r4 ((x'.trans g1).trans g4)
end

/-! ### comprehensions -/
def sYes : BS := fun S => some (true, S)
theorem sem_yes {K : PySem.W.Frag} : SemB K tYes sYes := fun F S σ H G b S' r e Q k => by cases e; exact k H G r (.refl _)
def lcGo (vs : List Nat) (gs : GS) (fc : BS) (fd : DS) : List PyData → List SD → Option (List PyData × List SD)
  | [], S => some ([], S)
  | x :: xs, S => (gs x (borGo vs 0 S)).bind fun S1 => (fc S1).bind fun p => if p.1 = true then (fd p.2).bind fun q => (lcGo vs gs fc fd xs (unbGo vs 0 S q.2)).map fun z => (q.1 :: z.1, z.2) else lcGo vs gs fc fd xs (unbGo vs 0 S p.2)
def sLC (vs : List Nat) (fi : LS) (gs : GS) (fc : BS) (fd : DS) : LS := fun S => (fi S).bind fun p => if p.1.length < 100000 then lcGo vs gs fc fd p.1 p.2 else none
theorem sem_lc {K : PySem.W.Frag} {wi : TI} {g : TG} {tt : TT} {te : TE} {vs ix : List Nat} {fi : LS} {gs : GS} {fc : BS} {fd : DS} (hi : SemI K wi fi) (hg : SemG K g ix gs) (hix : ∀ i ∈ ix, i ∈ vs) (ht : SemB K tt fc) (he : SemD K te fd) : SemL K (tLc wi g tt te vs) (sLC vs fi gs fc fd) := by
  intro F S σ H G out S' r e Q k
  obtain ⟨⟨xs, S1⟩, e1, e2⟩ := Option.bind_eq_some_iff.mp e
  have e2 : (if xs.length < 100000 then lcGo vs gs fc fd xs S1 else none) = some (out, S') := e2
  split at e2
  · rename_i hlen
    refine hi F S σ H G xs S1 r e1 _ fun J H1 G1 r1 g1 wk D hD => ?_
    obtain ⟨f0, fg, fa⟩ := r1.fresh hD
    refine ⟨fun i m H' => i + m = xs.length ∧ ∃ T G' accV acc rest, SR K F T σ H' G' ∧ Ex G1 G' ∧ Apart T σ D ∧ G' D = none ∧ H' D = some (.lst accV) ∧ RpAll K G' accV acc ∧ acc.length ≤ i ∧ lcGo vs gs fc fd (xs.drop i) T = some (rest, S') ∧ acc ++ rest = out,
      ⟨xs.length, by omega, S1, G1, [], [], out, r1.ext (PX.side r1.gh hD), .refl _, fa, fg, upd_same, .nil, by simp, by simpa using e2, rfl⟩, fun i m H' ⟨hm, T, G', accV, acc, rest, r', x', ap, gD, hh, ha, hl, ef, eo⟩ => ?_⟩
    obtain ⟨w1, w2⟩ := wk G' H' x' r'.gh i
    by_cases hi : i < xs.length
    · obtain ⟨go, yl⟩ := w1 hi
      have ed : xs.drop i = xs[i] :: xs.drop (i + 1) := List.drop_eq_getElem_cons hi
      rw [ed] at ef
      obtain ⟨S2, q1, ef⟩ := Option.bind_eq_some_iff.mp ef
      obtain ⟨⟨c, S3⟩, q2, ef⟩ := Option.bind_eq_some_iff.mp ef
      refine .inr ⟨go, fun H2 => ∃ T G' accV acc rest, SR K F T σ H2 G' ∧ Ex G1 G' ∧ Apart T σ D ∧ G' D = none ∧ H2 D = some (.lst accV) ∧ RpAll K G' accV acc ∧ acc.length ≤ i + 1 ∧ lcGo vs gs fc fd (xs.drop (i + 1)) T = some (rest, S') ∧ acc ++ rest = out,
        fun H2 hN => ⟨m - 1, by omega, by omega, hN⟩, fun v H2 hy => ?_⟩
      obtain ⟨G2, x, hx, px, hr⟩ := yl v H2 hy
      rw [List.getElem?_eq_getElem hi] at hx
      cases hx
      have r2 : SR K F T σ H2 G2 := r'.ext px
      have gD2 : G2 D = none := by
        cases z : G2 D with
        | none => rfl
        | some u =>
          rcases px.new D (by rw [z]; simp) with q | q
          · exact absurd gD q
          · rw [hh] at q; cases q
      have hh2 : H2 D = some (.lst accV) := px.hh D _ hh
      refine hg (Fr.blk vs T σ H2 G2) (borGo vs 0 T) (wipe σ vs) H2 G2 v _ S2 (r2.sub vs) hr q1 _ fun σ3 H3 G3 r3 g3 b3 => ⟨?_, ?_⟩
      · have b4 := b3.mono hix
        exact (wipe_ext (fun i hi => ((Bt.wiped.trans b4).2 i hi)) (Bt.wiped.trans b4).1).symm
      · refine ht _ S2 σ3 H3 G3 c S3 r3 q2 _ fun H4 G4 r4 g4 => ?_
        cases c with
        | true =>
          have ef : ((fd S3).bind fun q => (lcGo vs gs fc fd (xs.drop (i + 1)) (unbGo vs 0 T q.2)).map fun z => (q.1 :: z.1, z.2)) = some (rest, S') := ef
          obtain ⟨⟨y, S4⟩, q3, ef⟩ := Option.bind_eq_some_iff.mp ef
          obtain ⟨⟨rest', S5⟩, q4, q5⟩ := Option.map_eq_some_iff.mp ef
          cases q5
          show te σ3 H4 _
          refine he _ S3 σ3 H4 G4 y S4 r4 q3 _ fun w H5 G5 r5 g5 hy5 => ?_
          obtain ⟨hD5, gD5⟩ := r2.aside r5 hh2 gD2 ap
          have x5 : Ex G1 G5 := ((x'.trans px.gg).trans g3).trans (g4.trans g5)
          have x25 : Ex G' G5 := (px.gg.trans g3).trans (g4.trans g5)
          refine ⟨accV, hD5, szl (by rw [ha.length]; omega), unbGo vs 0 T S4, G5, accV ++ [w], acc ++ [y], rest', (r2.unsub r5).side f0 gD5 (apart_unb ap), x5, apart_unb ap, gD5, upd_same, (ha.mono x25).append (.cons hy5 .nil), by simp; omega, q4, by rw [← eo]; simp⟩
        | false =>
          have ef : lcGo vs gs fc fd (xs.drop (i + 1)) (unbGo vs 0 T S3) = some (rest, S') := ef
          show ∃ T G' accV acc rest, _
          obtain ⟨hD5, gD5⟩ := r2.aside r4 hh2 gD2 ap
          have x5 : Ex G1 G4 := ((x'.trans px.gg).trans g3).trans g4
          have x25 : Ex G' G4 := (px.gg.trans g3).trans g4
          exact ⟨unbGo vs 0 T S3, G4, accV, acc, rest, r2.unsub r4, x5, apart_unb ap, gD5, hD5, ha.mono x25, by omega, ef, eo⟩
    · refine .inl ⟨w2 (by omega), ?_⟩
      rw [List.drop_eq_nil_of_le (by omega)] at ef
      cases ef
      rw [List.append_nil] at eo
      subst eo
      exact k D accV H' G' r' (g1.trans x') f0 gD ap hh ha
  · cases e2
end DL

set_option Elab.async false
set_option linter.all false
set_option maxRecDepth 100000
set_option maxHeartbeats 4000000
/-! DL, part 4: defs and their calls, the law's end. -/
namespace DL
open PySem PySem.Spec PyProof.Rows L2

/-- a def, as a function on slots: what it hands back, what has become of the lists that were lent -/
abbrev Fn := List SD → Option (SD × List SD)
def spM (K : PySem.W.Frag) (n : Nat) (m : Fn) : Sp := fun vs H Q _ => ∃ (Dl : List SD) (G : Hp) (r : SD) (Dl' : List SD), vs.length = n ∧ SR K ⟨H, G, Dl, vs.map some⟩ Dl (vs.map some) H G ∧ m Dl = some (r, Dl') ∧
  ∀ v H' G', SR K ⟨H, G, Dl, vs.map some⟩ (Dl' ++ [r]) (vs.map some ++ [some v]) H' G' → Q v H'
structure FnG (P : Program) (w : World) (K : PySem.W.Frag) (mg : Str → Option Value) (base : Heap) (k : Nat) (f : Addr) (fd : FuncData) (ps : List Str) (m : Fn) : Prop where
  run : ∀ (A : Around) (outer : List Env) (s : Shared) (H : Hp) (args : Args) (us : List Value) (vs : List V) (Q : VK), Room k A → A.guards = some [] → Env0 P w K mg base A outer s H → BindsTo s fd args (ps.zip us) → Vals vs us →
    spM K ps.length m vs H Q E0 → codeAny (model P w) A (.call (.ref f) args) (CR CX0 outer P w H s Q E0) s
theorem FnG.mono {P : Program} {w : World} {K : PySem.W.Frag} {mg : Str → Option Value} {base : Heap} {j k : Nat} {f : Addr} {fd : FuncData} {ps : List Str} {m : Fn} (F : FnG P w K mg base j f fd ps m) (h : j ≤ k) : FnG P w K mg base k f fd ps m :=
  ⟨fun A outer s H args us vs Q hr => F.run A outer s H args us vs Q (hr.mono h)⟩

/-! ### a def's body -/
/-- what the borrowed lists have become -/
def fin : List SD → List SD → Option (List SD)
  | [], _ => some []
  | .own _ _ :: Dl, .own true xs :: S => (fin Dl S).map fun z => .own true xs :: z
  | .own _ _ :: _, _ => none
  | s :: Dl, _ :: S => (fin Dl S).map fun z => s :: z
  | _ :: _, [] => none
def defOut (Dl : List SD) : Out → Option (SD × List SD)
  | .nx S => (fin Dl S).map fun z => (.d .none, z)
  | .rt r S => (fin Dl S).map fun z => (r, z)
  | _ => none
/-- N: how many slots there are -/
def defn (N : Nat) (f : SSem) : Fn := fun Dl => (f (Dl ++ List.replicate (N - Dl.length) .un)).bind (defOut Dl)
theorem fin_len : ∀ {Dl S T : List SD}, fin Dl S = some T → T.length = Dl.length
  | [], _, _, h => by cases h; rfl
  | .own _ _ :: Dl, .own true xs :: S, _, h => by
    obtain ⟨z, h1, rfl⟩ := Option.map_eq_some_iff.mp h
    simp [fin_len h1]
  | .un :: Dl, _ :: S, _, h => by
    obtain ⟨z, h1, rfl⟩ := Option.map_eq_some_iff.mp h
    simp [fin_len h1]
  | .d _ :: Dl, _ :: S, _, h => by
    obtain ⟨z, h1, rfl⟩ := Option.map_eq_some_iff.mp h
    simp [fin_len h1]
theorem fin_get : ∀ {Dl S T : List SD}, fin Dl S = some T → ∀ (i : Nat) (s : SD), T[i]? = some s → (∃ xs, s = .own true xs ∧ S[i]? = some (.own true xs)) ∨ (Dl[i]? = some s ∧ ∀ b xs, s ≠ .own b xs)
  | [], _, _, h, i, s, e => by cases h; simp at e
  | .own _ _ :: Dl, .own true xs :: S, _, h, i, s, e => by
    obtain ⟨z, h1, rfl⟩ := Option.map_eq_some_iff.mp h
    cases i with
    | zero => cases e; exact .inl ⟨xs, rfl, rfl⟩
    | succ i => exact fin_get h1 i s e
  | .un :: Dl, _ :: S, _, h, i, s, e => by
    obtain ⟨z, h1, rfl⟩ := Option.map_eq_some_iff.mp h
    cases i with
    | zero => cases e; exact .inr ⟨rfl, fun _ _ q => by cases q⟩
    | succ i => exact fin_get h1 i s e
  | .d _ :: Dl, _ :: S, _, h, i, s, e => by
    obtain ⟨z, h1, rfl⟩ := Option.map_eq_some_iff.mp h
    cases i with
    | zero => cases e; exact .inr ⟨rfl, fun _ _ q => by cases q⟩
    | succ i => exact fin_get h1 i s e
theorem fin_le : ∀ {Dl S T : List SD}, fin Dl S = some T → Dl.length ≤ S.length := by
  intro Dl
  induction Dl with
  | nil => intro S T _; simp
  | cons s Dl ih =>
    intro S T h
    cases S with
    | nil => cases s <;> simp [fin] at h
    | cons s' S =>
      cases s with
      | own b xs =>
        cases s' with
        | own c ys =>
          cases c with
          | true =>
            obtain ⟨z, h1, _⟩ := Option.map_eq_some_iff.mp h
            have := ih h1
            simp; omega
          | false => simp [fin] at h
        | _ => simp [fin] at h
      | _ =>
        obtain ⟨z, h1, _⟩ := Option.map_eq_some_iff.mp h
        have := ih h1
        simp; omega
theorem SR.undef {K : PySem.W.Frag} {H G : Hp} {Dl : List SD} {vs : List V} {N : Nat} (r : SR K ⟨H, G, Dl, vs.map some⟩ Dl (vs.map some) H G) :
    SR K ⟨H, G, Dl, vs.map some⟩ (Dl ++ List.replicate (N - Dl.length) .un) (vs.map some ++ List.replicate (N - vs.length) none) H G := by
  have L : vs.length = Dl.length := by simpa using r.len
  have old : ∀ {i : Nat} {s : SD}, (Dl ++ List.replicate (N - Dl.length) .un)[i]? = some s → s = .un ∨ (Dl[i]? = some s ∧ (vs.map some ++ List.replicate (N - vs.length) none)[i]? = (vs.map some)[i]?) := fun {i s} e => by
    by_cases hi : i < Dl.length
    · rw [List.getElem?_append_left hi] at e
      exact .inr ⟨e, List.getElem?_append_left (by simpa [L] using hi)⟩
    · rw [List.getElem?_append_right (by omega), List.getElem?_replicate] at e
      split at e
      · cases e; exact .inl rfl
      · cases e
  refine ⟨by simp [L], r.g0, r.gh, r.new, r.keep, r.live, fun i x e => ?_, fun i b xs e => ?_, fun i j a b1 x1 b2 x2 e1 e2 e3 e4 => ?_⟩
  · rcases old e with q | ⟨h1, h2⟩
    · cases q
    · rw [h2]; exact r.dat i x h1
  · rcases old e with q | ⟨h1, h2⟩
    · cases q
    · rw [h2]; exact r.own i b xs h1
  · rcases old e1 with q | ⟨h1, h2⟩
    · cases q
    · rcases old e2 with q | ⟨h3, h4⟩
      · cases q
      · rw [h2] at e3; rw [h4] at e4
        exact r.sep i j a b1 x1 b2 x2 h1 h3 e3 e4
/-- at a def's end -/
theorem SR.done {K : PySem.W.Frag} {H G H' G' : Hp} {Dl S T : List SD} {vs : List V} {σ : L2.St} {r : SD} {v : V} (r0 : SR K ⟨H, G, Dl, vs.map some⟩ Dl (vs.map some) H G) (r1 : SR K ⟨H, G, Dl, vs.map some⟩ (S ++ [r]) (σ ++ [some v]) H' G') (e : fin Dl S = some T) :
    SR K ⟨H, G, Dl, vs.map some⟩ (T ++ [r]) (vs.map some ++ [some v]) H' G' := by
  have L : vs.length = Dl.length := by simpa using r0.len
  have L1 : σ.length = S.length := by simpa using r1.len
  have LT := fin_len e
  -- each told slot stands in S, or is as it was
  have old : ∀ {i : Nat} {s : SD}, (T ++ [r])[i]? = some s → (i < T.length ∧ (vs.map some ++ [some v])[i]? = (vs.map some)[i]? ∧ ((∃ xs, s = .own true xs ∧ (S ++ [r])[i]? = some (.own true xs) ∧ (σ ++ [some v])[i]? = (vs.map some)[i]?) ∨ (Dl[i]? = some s ∧ ∀ b xs, s ≠ .own b xs))) ∨
      (i = T.length ∧ s = r ∧ (vs.map some ++ [some v])[i]? = some (some v)) := fun {i s} q => by
    by_cases hi : i < T.length
    · rw [List.getElem?_append_left hi] at q
      refine .inl ⟨hi, List.getElem?_append_left (by simp; omega), ?_⟩
      rcases fin_get e i s q with ⟨xs, h1, h2⟩ | h
      · refine .inl ⟨xs, h1, ?_, ?_⟩
        · rw [List.getElem?_append_left (List.getElem?_eq_some_iff.mp h2).1]; exact h2
        · have h3 : (S ++ [r])[i]? = some (.own true xs) := by rw [List.getElem?_append_left (List.getElem?_eq_some_iff.mp h2).1]; exact h2
          obtain ⟨a, ws, p1, _, _, _, p5, _⟩ := r1.own i _ _ h3
          exact p1.trans ((p5 rfl).2).symm
      · exact .inr h
    · rw [List.getElem?_append_right (by omega)] at q
      cases z : i - T.length with
      | zero =>
        rw [z] at q; cases q
        exact .inr ⟨by omega, rfl, by rw [List.getElem?_append_right (by simp; omega)]; simp; rw [show i - vs.length = 0 by omega]; rfl⟩
      | succ n => rw [z] at q; simp at q
  have last : ∀ {s : SD}, s = r → (S ++ [r])[S.length]? = some s ∧ (σ ++ [some v])[S.length]? = some (some v) := fun {s} q => by
    subst q
    exact ⟨by simp, by rw [← L1]; simp⟩
  refine ⟨by simp; omega, r1.g0, r1.gh, r1.new, r1.keep, r1.live, fun i x q => ?_, fun i b xs q => ?_, fun i j a b1 x1 b2 x2 e1 e2 e3 e4 => ?_⟩
  · rcases old q with ⟨hi, h1, h2⟩ | ⟨hi, h1, h2⟩
    · rw [h1]
      rcases h2 with ⟨xs, z, _⟩ | ⟨h3, _⟩
      · cases z
      · obtain ⟨u, q1, q2⟩ := r0.dat i x h3
        exact ⟨u, q1, q2.mono r1.g0⟩
    · rw [h2]
      obtain ⟨h3, h4⟩ := last h1
      obtain ⟨u, q1, q2⟩ := r1.dat _ x h3
      rw [h4] at q1; cases q1
      exact ⟨v, rfl, q2⟩
  · rcases old q with ⟨hi, h1, h2⟩ | ⟨hi, h1, h2⟩
    · rw [h1]
      rcases h2 with ⟨ys, z, h3, h4⟩ | ⟨_, h3⟩
      · cases z
        obtain ⟨a, ws, p1, p2, p3, p4, p5, p6⟩ := r1.own i _ _ h3
        exact ⟨a, ws, h4.symm.trans p1, p2, p3, p4, p5, p6⟩
      · exact absurd rfl (h3 b xs)
    · rw [h2]
      obtain ⟨h3, h4⟩ := last h1
      obtain ⟨a, ws, p1, p2, p3, p4, p5, p6⟩ := r1.own _ _ _ h3
      rw [h4] at p1; cases p1
      cases b with
      | false => exact ⟨a, ws, rfl, p2, p3, p4, (fun z => by cases z), p6⟩
      | true =>
        exfalso
        have h7 := (p5 rfl).2
        have h8 : (vs.map some)[S.length]? = some (some (.ref a)) := h7
        -- the place of the result lies behind the parameters
        have h9 : S.length < vs.length := by
          have := (List.getElem?_eq_some_iff.mp h8).1
          simpa using this
        have h10 : Dl.length ≤ S.length := by
          exact fin_le e
        omega
  · have via : ∀ {i : Nat} {b : Bool} {xs : List PyData}, (T ++ [r])[i]? = some (.own b xs) → ∃ j : Nat, (S ++ [r])[j]? = some (.own b xs) ∧ (σ ++ [some v])[j]? = (vs.map some ++ [some v])[i]? ∧ (i < T.length → j = i) ∧ (i = T.length → j = S.length) := fun {i b xs} q => by
      rcases old q with ⟨hi, h1, h2⟩ | ⟨hi, h1, h2⟩
      · rcases h2 with ⟨ys, z, h3, h4⟩ | ⟨_, h3⟩
        · cases z
          exact ⟨i, h3, h4.trans h1.symm, fun _ => rfl, fun q => by omega⟩
        · exact absurd rfl (h3 b xs)
      · obtain ⟨h3, h4⟩ := last h1
        exact ⟨S.length, h3, h4.trans h2.symm, fun q => by omega, fun _ => rfl⟩
    obtain ⟨i', p1, p2, p3, p4⟩ := via e1
    obtain ⟨j', q1, q2, q3, q4⟩ := via e2
    have ee := r1.sep i' j' a _ _ _ _ p1 q1 (p2.trans e3) (q2.trans e4)
    have li : i < T.length ∨ i = T.length := by
      have := (List.getElem?_eq_some_iff.mp e1).1
      simp at this; omega
    have lj : j < T.length ∨ j = T.length := by
      have := (List.getElem?_eq_some_iff.mp e2).1
      simp at this; omega
    rcases li with a1 | a1 <;> rcases lj with b1 | b1
    · have := p3 a1; have := q3 b1; omega
    · have h1 := p3 a1
      have h2 := q4 b1
      have h3 := fin_le e
      omega
    · have h1 := p4 a1
      have h2 := q3 b1
      have h3 := fin_le e
      omega
    · omega

section
variable {P : Program} {w : World} {K : PySem.W.Frag} {mg : Str → Option Value} {base : Heap}
/-- the context of a def's body -/
abbrev cxG (P : Program) (w : World) (K : PySem.W.Frag) (mg : Str → Option Value) (base : Heap) (N : List Str) (qual : Str) (scope : Scope) (f : Addr) (cd : Value) (A : Around) (outer : List Env) (s : Shared) (H : Hp) : Cx := (cxOf CX0 P w K mg base N qual scope f cd A outer s H E0).nox
theorem fnG_of {x qual : Str} {st : Stmt} {f : Addr} {fd : FuncData} {N ps : List Str} {k n : Nat} {fs : SSem} (F : Fun K x qual st f fd) (S : FnScope N ps (defScope st)) (hn : N.length = n)
    (hbody : ∀ (cdv : Value) (A : Around) (outer : List Env) (s : Shared) (H : Hp), Room k (cxG P w K mg base N qual (defScope st) f cdv A outer s H).A → (cxG P w K mg base N qual (defScope st) f cdv A outer s H).A.guards = some [] →
      ∃ t, SSs (cxG P w K mg base N qual (defScope st) f cdv A outer s H) K (defBody st) t fs) : FnG P w K mg base (k + 1) f fd ps (defn n fs) := by
  subst hn
  obtain ⟨oc, od, kV, doc, pm, an, cdv, ct, osl, rfl, lk, hcd⟩ := F.ex
  constructor
  intro A outer s H args us vs Q hr hgd e0 hb rv hsp
  obtain ⟨Dl, G, r, Dl', hl, r0, em, q⟩ := hsp
  have KX : K.In s.heap := e0.mod.kin.keeps fun b o e => (e0.bs b o e).1
  have lim : s.heap.NoLimit := e0.mod.nolimit.keeps fun b o e => (e0.bs b o e).1
  have par : ∀ y ∈ ps.zip us, (defScope st).names.lookup y.1 = some .local ∨ ((defScope st).names.lookup y.1 = some .cell ∧ ((cellsFrom (s.heap.objs.size + 1) (defScope st).names []).lookup y.1).isSome = true) := by
    intro y hy
    rcases S.par y.1 (List.of_mem_zip (show (y.1, y.2) ∈ ps.zip us from hy)).1 with z | z
    · exact .inl z
    · exact .inr ⟨z, PySem.W.cellsFrom_some _ _ _ (.inl z)⟩
  refine codeAny_call_function hr.depth (KX _ _ lk) rfl S.co S.gen rfl (PySem.W.codeRec_of KX hcd) (hb _ _ _ _ ?_)
  refine wpAny_newFunctionEnv_cells S.kind par fun env he s1 x => ?_
  subst he
  refine ⟨lim.keeps x.toInCall.keep, codeAny_func ?_⟩
  obtain ⟨t, ht⟩ := hbody cdv A outer s H (hr.deeper _) hgd
  have I := inv_start (CX := CX0) (E := E0) S hr.hd e0 hl rv x
  obtain ⟨out, e1, e2⟩ := Option.bind_eq_some_iff.mp em
  have L : vs.length = Dl.length := by simpa using r0.len
  have rr := r0.undef (N := N.length)
  have hN : vs.length ≤ N.length := by
    have h1 := S.pre
    have h2 : (N.take ps.length).length = ps.length := by rw [h1]
    rw [List.length_take] at h2
    omega
  have read : t { nx := fun _ H' => Q .non H', rt := Q } (start N vs) H := by
    refine ht.ok _ _ _ H G out rr e1 _ ?_
    cases out with
    | nx S1 =>
      obtain ⟨T, h1, h2⟩ := Option.map_eq_some_iff.mp e2
      cases h2
      exact fun σ' H' G' r1 _ => q .non H' G' (r0.done (r1.pushD .non) h1)
    | rt r' S1 =>
      obtain ⟨T, h1, h2⟩ := Option.map_eq_some_iff.mp e2
      cases h2
      exact fun v σ' H' G' r1 _ => q v H' G' (r0.done r1 h1)
    | bk S1 => cases e2
    | ct S1 => cases e2
  refine wpAny_mono (ht.p.run [] s1 (start N vs) H _ (I.wish _) read) (fun fl s' hs => ?_) fun e s' hs => hs.elim
  have hs := SP.unwish hs
  have end_ : ∀ {σ' : L2.St} {H' : Hp} {v : V} {u : Value}, Inv (cxOf CX0 P w K mg base N qual (defScope st) f cdv A outer s H E0) [] σ' H' s' → RelV v u → Q v H' → CE outer P w H s Q u s' :=
    fun {σ' H' v u} J ru qv => ⟨v, H', J.os, J.bare, J.base, J.hok, ru, qv⟩
  cases fl with
  | ret u => obtain ⟨v, σ', H', J, ru, qv⟩ := hs; exact end_ J ru qv
  | next => obtain ⟨σ', H', J, qv⟩ := hs; exact end_ (v := V.non) (u := Value.none) J rfl qv
  | brk => obtain ⟨_, _, _, qv⟩ := hs; exact qv.elim
  | cont => obtain ⟨_, _, _, qv⟩ := hs; exact qv.elim
end

/-! ### calls -/
def opSD (S : List SD) : Op → Option SD
  | .dat x => some (.d x)
  | .slot i => (S[i]?).bind fun s => match s with
    | .un => none
    | s => some (bor s)
def opSDs (S : List SD) : List Op → Option (List SD)
  | [] => some []
  | o :: os => (opSD S o).bind fun s => (opSDs S os).map fun ss => s :: ss
def isOwn : Option SD → Bool
  | some (.own _ _) => true
  | _ => false
/-- the slots whose own lists are lent -/
def ownIx (S : List SD) : List Op → List Nat
  | [] => []
  | .slot i :: os => if isOwn (S[i]?) = true then i :: ownIx S os else ownIx S os
  | .dat _ :: os => ownIx S os
def isSlot (j : Nat) : Op → Bool
  | .slot i => i == j
  | .dat _ => false
def findArg (j : Nat) : List Op → List SD → Option SD
  | [], _ => none
  | o :: os, rs => if isSlot j o = true then some (rs.headD .un) else findArg j os rs.tail
def wb1 : Option SD → SD → SD
  | none, s => s
  | some r, s => unb1 s r
def wbGo (os : List Op) (rs : List SD) : Nat → List SD → List SD
  | _, [] => []
  | j, s :: S => wb1 (findArg j os rs) s :: wbGo os rs (j + 1) S
theorem wbGo_get (os : List Op) (rs : List SD) : ∀ (S : List SD) (k i : Nat), (wbGo os rs k S)[i]? = (S[i]?).map (wb1 (findArg (k + i) os rs))
  | [], _, _ => by simp [wbGo]
  | s :: S, k, 0 => by simp [wbGo]
  | s :: S, k, i + 1 => by
    have ih := wbGo_get os rs S (k + 1) i
    have e : k + 1 + i = k + (i + 1) := by omega
    rw [e] at ih
    simpa [wbGo] using ih
theorem wbGo_len (os : List Op) (rs : List SD) : ∀ (S : List SD) (k : Nat), (wbGo os rs k S).length = S.length
  | [], _ => rfl
  | s :: S, k => by simp [wbGo, wbGo_len os rs S (k + 1)]
theorem isSlot_true {j : Nat} {o : Op} (h : isSlot j o = true) : o = .slot j := by
  cases o with
  | dat x => cases h
  | slot i =>
    have h : (i == j) = true := h
    rw [beq_iff_eq] at h; rw [h]
theorem findArg_some : ∀ {os : List Op} {rs : List SD} {j : Nat} {r : SD}, findArg j os rs = some r → ∃ i : Nat, os[i]? = some (.slot j) ∧ (rs[i]? = some r ∨ r = .un)
  | o :: os, rs, j, r, h => by
    unfold findArg at h
    split at h
    · rename_i hs
      cases h
      refine ⟨0, by rw [isSlot_true hs]; rfl, ?_⟩
      cases rs with
      | nil => exact .inr rfl
      | cons r rs => exact .inl rfl
    · obtain ⟨i, h1, h2⟩ := findArg_some h
      refine ⟨i + 1, h1, h2.imp (fun q => ?_) id⟩
      cases rs with
      | nil => simp at q
      | cons r rs => exact q
theorem findArg_none : ∀ {os : List Op} {rs : List SD} {j : Nat}, findArg j os rs = none → ∀ i : Nat, os[i]? ≠ some (.slot j)
  | [], rs, j, h, i => by simp
  | o :: os, rs, j, h, i => by
    unfold findArg at h
    split at h
    · cases h
    · rename_i hs
      cases i with
      | zero =>
        intro q
        cases q
        exact hs (by show (j == j) = true; simp)
      | succ i => exact findArg_none h i
theorem ownIx_mem : ∀ {S : List SD} {os : List Op} {i j : Nat}, os[i]? = some (.slot j) → isOwn (S[j]?) = true → j ∈ ownIx S os
  | S, o :: os, 0, j, h, q => by
    cases h
    unfold ownIx
    rw [if_pos q]; simp
  | S, .slot k :: os, i + 1, j, h, q => by
    have ih := ownIx_mem (S := S) (os := os) (i := i) (j := j) h q
    unfold ownIx
    split
    · exact List.mem_cons_of_mem _ ih
    · exact ih
  | S, .dat _ :: os, i + 1, j, h, q => ownIx_mem (S := S) (os := os) (i := i) (j := j) h q
theorem ownIx_inj : ∀ {S : List SD} {os : List Op} {i i' j : Nat}, (ownIx S os).Nodup → os[i]? = some (.slot j) → os[i']? = some (.slot j) → isOwn (S[j]?) = true → i = i'
  | S, o :: os, 0, 0, j, _, _, _, _ => rfl
  | S, o :: os, 0, i' + 1, j, nd, h, h', q => by
    exfalso
    cases h
    unfold ownIx at nd
    rw [if_pos q] at nd
    exact (List.nodup_cons.mp nd).1 (ownIx_mem h' q)
  | S, o :: os, i + 1, 0, j, nd, h, h', q => by
    exfalso
    cases h'
    unfold ownIx at nd
    rw [if_pos q] at nd
    exact (List.nodup_cons.mp nd).1 (ownIx_mem h q)
  | S, .slot k :: os, i + 1, i' + 1, j, nd, h, h', q => by
    unfold ownIx at nd
    split at nd
    · rw [ownIx_inj (List.nodup_cons.mp nd).2 h h' q]
    · rw [ownIx_inj nd h h' q]
  | S, .dat _ :: os, i + 1, i' + 1, j, nd, h, h', q => by
    rw [ownIx_inj (S := S) (os := os) nd h h' q]
theorem opSDs_get : ∀ {S : List SD} {os : List Op} {Dl : List SD}, opSDs S os = some Dl → ∀ (i : Nat) (s : SD), Dl[i]? = some s → ∃ o, os[i]? = some o ∧ opSD S o = some s
  | S, [], _, h, i, s, e => by cases h; simp at e
  | S, o :: os, _, h, i, s, e => by
    unfold opSDs at h
    obtain ⟨s1, h1, h⟩ := Option.bind_eq_some_iff.mp h
    obtain ⟨ss, h2, rfl⟩ := Option.map_eq_some_iff.mp h
    cases i with
    | zero => cases e; exact ⟨o, rfl, h1⟩
    | succ i => exact opSDs_get h2 i s e
theorem opSDs_len : ∀ {S : List SD} {os : List Op} {Dl : List SD}, opSDs S os = some Dl → Dl.length = os.length
  | S, [], _, h => by cases h; rfl
  | S, o :: os, _, h => by
    unfold opSDs at h
    obtain ⟨s1, h1, h⟩ := Option.bind_eq_some_iff.mp h
    obtain ⟨ss, h2, rfl⟩ := Option.map_eq_some_iff.mp h
    simp [opSDs_len h2]
theorem OpRs.get {K : PySem.W.Frag} {G : Hp} {σ : L2.St} : ∀ {vs : List V} {os : List Op}, OpRs K G σ vs os → ∀ (i : Nat) (o : Op), os[i]? = some o → ∃ v, vs[i]? = some v ∧ OpR K G σ v o
  | _, _, .nil, i, o, e => by simp at e
  | _, _, .cons h t, 0, o, e => by cases e; exact ⟨_, rfl, h⟩
  | _, _, .cons h t, i + 1, o, e => OpRs.get t i o e
theorem OpRs.length {K : PySem.W.Frag} {G : Hp} {σ : L2.St} : ∀ {vs : List V} {os : List Op}, OpRs K G σ vs os → vs.length = os.length
  | _, _, .nil => rfl
  | _, _, .cons h t => by simp [t.length]
theorem opSD_d {S : List SD} {o : Op} {x : PyData} (h : opSD S o = some (.d x)) : o = .dat x ∨ ∃ j : Nat, o = .slot j ∧ S[j]? = some (.d x) := by
  cases o with
  | dat y => cases h; exact .inl rfl
  | slot j =>
    obtain ⟨s, h1, h2⟩ := Option.bind_eq_some_iff.mp h
    cases s with
    | un => cases h2
    | d y => cases h2; exact .inr ⟨j, rfl, h1⟩
    | own b xs => cases h2
theorem opSD_own {S : List SD} {o : Op} {b : Bool} {xs : List PyData} (h : opSD S o = some (.own b xs)) : b = true ∧ ∃ (j : Nat) (c : Bool), o = .slot j ∧ S[j]? = some (.own c xs) := by
  cases o with
  | dat y => cases h
  | slot j =>
    obtain ⟨s, h1, h2⟩ := Option.bind_eq_some_iff.mp h
    cases s with
    | un => cases h2
    | d y => cases h2
    | own c ys => cases h2; exact ⟨rfl, j, c, rfl, h1⟩
section
variable {K : PySem.W.Frag} {F : Fr} {S : List SD} {σ : L2.St} {H G H' G' : Hp} {vs : List V} {os : List Op} {Dl Dl' : List SD}
theorem SR.args (r : SR K F S σ H G) (h : OpRs K G σ vs os) (e : opSDs S os = some Dl) (nd : (ownIx S os).Nodup) : SR K ⟨H, G, Dl, vs.map some⟩ Dl (vs.map some) H G := by
  have own : ∀ (i : Nat) (b : Bool) (xs : List PyData), Dl[i]? = some (.own b xs) → ∃ (j : Nat) (c : Bool) (a : Addr) (ws : List V), b = true ∧ os[i]? = some (.slot j) ∧ S[j]? = some (.own c xs) ∧ (vs.map some)[i]? = some (some (.ref a)) ∧ σ[j]? = some (some (.ref a)) ∧ G a = none ∧ H a = some (.lst ws) ∧ RpAll K G ws xs := fun i b xs q => by
    obtain ⟨o, h1, h2⟩ := opSDs_get e i _ q
    obtain ⟨hb, j, c, rfl, h3⟩ := opSD_own h2
    obtain ⟨a, ws, p1, p2, p3, p4, _⟩ := r.own j c xs h3
    obtain ⟨v, q1, q2⟩ := h.get i _ h1
    have q2 : σ[j]? = some (some v) := q2
    rw [p1] at q2
    cases q2
    exact ⟨j, c, a, ws, hb, h1, h3, by rw [List.getElem?_map, q1]; rfl, p1, p2, p3, p4⟩
  refine ⟨by simp [h.length, opSDs_len e], .refl _, r.gh, fun b q => .inl q, fun b o q _ => q, fun b q => q, fun i x q => ?_, fun i b xs q => ?_, fun i j a b1 x1 b2 x2 e1 e2 e3 e4 => ?_⟩
  · obtain ⟨o, h1, h2⟩ := opSDs_get e i _ q
    obtain ⟨v, q1, q2⟩ := h.get i _ h1
    refine ⟨v, by rw [List.getElem?_map, q1]; rfl, ?_⟩
    rcases opSD_d h2 with rfl | ⟨j, rfl, h3⟩
    · exact q2
    · obtain ⟨u, p1, p2⟩ := r.dat j x h3
      have q2 : σ[j]? = some (some v) := q2
      rw [p1] at q2
      cases q2
      exact p2
  · obtain ⟨j, c, a, ws, hb, h1, h2, h3, h4, h5, h6, h7⟩ := own i b xs q
    refine ⟨a, ws, h3, h5, h6, h7, fun _ => ⟨⟨i, b, xs, q, h3⟩, h3⟩, fun z => ?_⟩
    rw [hb] at z; cases z
  · obtain ⟨k, c, a', ws, hb, h1, h2, h3, h4, _⟩ := own i b1 x1 e1
    obtain ⟨k', c', a2, ws', hb', h1', h2', h3', h4', _⟩ := own j b2 x2 e2
    rw [h3] at e3; cases e3
    rw [h3'] at e4; cases e4
    have ek := r.sep k k' a _ _ _ _ h2 h2' h4 h4'
    subst ek
    exact ownIx_inj nd h1 h1' (by rw [h2]; rfl)
/-- what a call hands back -/
def ResR (K : PySem.W.Frag) (F : Fr) (S : List SD) (σ : L2.St) (H G : Hp) (v : V) : SD → Prop
  | .d x => Rp K G v x
  | .own false xs => ∃ p vs, v = .ref p ∧ F.H0 p = none ∧ G p = none ∧ Apart S σ p ∧ H p = some (.lst vs) ∧ RpAll K G vs xs
  | _ => True
theorem SR.called (r : SR K F S σ H G) (h : OpRs K G σ vs os) (e : opSDs S os = some Dl) {rs : SD} {v : V} (r' : SR K ⟨H, G, Dl, vs.map some⟩ (Dl' ++ [rs]) (vs.map some ++ [some v]) H' G') :
    SR K F (wbGo os Dl' 0 S) σ H' G' ∧ ResR K F (wbGo os Dl' 0 S) σ H' G' v rs := by
  have L : (vs.map some).length = Dl'.length := by simpa using r'.len
  have T : SR K F (wbGo os Dl' 0 S) σ H' G' := by
    refine r.back r' rfl rfl (fun a hb => ?_) (wbGo_len _ _ _ _) (fun j x q => ?_) fun j b xs q => ?_
    · obtain ⟨i, b, xs, h1, h2⟩ := hb
      obtain ⟨o, h3, h4⟩ := opSDs_get e i _ h1
      obtain ⟨_, j, c, rfl, h5⟩ := opSD_own h4
      obtain ⟨u, q1, q2⟩ := h.get i _ h3
      have h2 : (vs.map some)[i]? = some (some (.ref a)) := h2
      rw [List.getElem?_map, q1] at h2
      cases h2
      exact ⟨j, c, xs, h5, q2⟩
    · rw [wbGo_get] at q
      obtain ⟨s, h1, h2⟩ := Option.map_eq_some_iff.mp q
      cases z : findArg (0 + j) os Dl' with
      | none => rw [z] at h2; have h2 : s = .d x := h2; rw [h1, h2]
      | some r0 =>
        rw [z] at h2
        have h2 : unb1 s r0 = .d x := h2
        cases s with
        | own b xs => cases r0 with
          | own c ys => cases c <;> cases h2
          | _ => cases h2
        | _ => rw [h1]; exact congrArg some h2
    · rw [wbGo_get, Nat.zero_add] at q
      obtain ⟨s, h1, h2⟩ := Option.map_eq_some_iff.mp q
      cases z : findArg j os Dl' with
      | none =>
        rw [z] at h2
        have h2 : s = .own b xs := h2
        subst h2
        obtain ⟨a, ws, p1, _⟩ := r.own j b xs h1
        refine ⟨⟨_, h1⟩, a, p1, .inr ⟨h1, fun hb => ?_⟩⟩
        obtain ⟨i, b', xs', q1, q2⟩ := hb
        obtain ⟨o, h3, h4⟩ := opSDs_get e i _ q1
        obtain ⟨_, j', c, rfl, h5⟩ := opSD_own h4
        obtain ⟨u, t1, t2⟩ := h.get i _ h3
        have q2 : (vs.map some)[i]? = some (some (.ref a)) := q2
        rw [List.getElem?_map, t1] at q2
        cases q2
        have ej := r.sep j j' a _ _ _ _ h1 h5 p1 t2
        subst ej
        exact findArg_none z i h3
      | some r0 =>
        rw [z] at h2
        have h2 : unb1 s r0 = .own b xs := h2
        cases s with
        | own b0 ys => cases r0 with
          | own c zs => cases c with
            | true =>
              cases h2
              obtain ⟨a, ws, p1, _⟩ := r.own j _ ys h1
              refine ⟨⟨_, h1⟩, a, p1, .inl ?_⟩
              obtain ⟨i, h3, h4⟩ := findArg_some z
              rcases h4 with h4 | h4
              · have hi : i < Dl'.length := (List.getElem?_eq_some_iff.mp h4).1
                obtain ⟨u, t1, t2⟩ := h.get i _ h3
                have t2 : σ[j]? = some (some u) := t2
                rw [p1] at t2
                cases t2
                exact ⟨i, by rw [List.getElem?_append_left hi]; exact h4, by show (vs.map some)[i]? = _; rw [List.getElem?_map, t1]; rfl⟩
              · cases h4
            | false => cases h2
          | _ => cases h2
        | un => cases h2
        | d x => cases h2
  refine ⟨T, ?_⟩
  have last : (Dl' ++ [rs])[Dl'.length]? = some rs := by simp
  have lastv : (vs.map some ++ [some v])[Dl'.length]? = some (some v) := by rw [← L]; simp
  cases rs with
  | un => trivial
  | d x =>
    obtain ⟨u, p1, p2⟩ := r'.dat _ x last
    rw [lastv] at p1; cases p1
    exact p2
  | own b xs =>
    cases b with
    | true => trivial
    | false =>
      obtain ⟨a, ws, p1, p2, p3, p4, _, p6⟩ := r'.own _ _ xs last
      rw [lastv] at p1; cases p1
      have ha : H a = none := p6 rfl
      obtain ⟨f0, _, fa⟩ := r.fresh ha
      refine ⟨a, ws, rfl, f0, p2, fun i b ys z1 z2 => ?_, p3, p4⟩
      rw [wbGo_get] at z1
      obtain ⟨s, h1, h2⟩ := Option.map_eq_some_iff.mp z1
      have : ∃ (c : Bool) (zs : List PyData), s = .own c zs := by
        cases zz : findArg (0 + i) os Dl' with
        | none => rw [zz] at h2; exact ⟨b, ys, h2⟩
        | some r0 =>
          rw [zz] at h2
          have h2 : unb1 s r0 = .own b ys := h2
          cases s with
          | own c zs => exact ⟨c, zs, rfl⟩
          | un => cases h2
          | d x => cases h2
      obtain ⟨c, zs, rfl⟩ := this
      exact fa i c zs h1 z2
end
/-- the written values in the parameters' order -/
def perm {α : Type} (pm : List Nat) (xs : List α) : List α := pm.filterMap fun i => xs[i]?
theorem perm_rel {K : PySem.W.Frag} {G : Hp} {σ : L2.St} {vs : List V} {os : List Op} (h : OpRs K G σ vs os) : ∀ pm : List Nat, OpRs K G σ (perm pm vs) (perm pm os)
  | [] => .nil
  | i :: pm => by
    unfold perm
    rw [List.filterMap_cons, List.filterMap_cons]
    cases q : os[i]? with
    | none =>
      have : vs[i]? = none := by
        rw [List.getElem?_eq_none_iff] at q ⊢
        rw [h.length]; exact q
      rw [this]
      exact perm_rel h pm
    | some o =>
      obtain ⟨v, h1, h2⟩ := h.get i o q
      rw [h1]
      exact .cons h2 (perm_rel h pm)
theorem perm_vals {vs : List V} {us : List Value} (h : Vals vs us) : ∀ pm : List Nat, Vals (perm pm vs) (perm pm us)
  | [] => .nil
  | i :: pm => by
    unfold perm
    rw [List.filterMap_cons, List.filterMap_cons]
    cases q : vs[i]? with
    | none =>
      rw [Vals.none_of h q]
      exact perm_vals h pm
    | some v =>
      obtain ⟨u, h1, h2⟩ := Vals.get h q
      rw [h1]
      exact .cons h2 (perm_vals h pm)
/-- n operands by place, k by name -/
def sApp (n k : Nat) (f g : AS) : AS := fun S => (f S).bind fun p => (g p.2).bind fun q => if p.1.length = n ∧ q.1.length = k then some (p.1 ++ q.1, q.2) else none
def sCallR (n : Nat) (m : Fn) (fs : AS) : List SD → Option (SD × List SD) := fun S => (fs S).bind fun p => (opSDs p.2 p.1).bind fun Dl => if p.1.length = n ∧ (ownIx p.2 p.1).Nodup then (m Dl).map fun q => (q.1, wbGo p.1 q.2 0 p.2) else none
def sPerm (pm : List Nat) (f : AS) : AS := fun S => (f S).map fun p => (perm pm p.1, p.2)
def resD : SD → Option PyData
  | .d x => some x
  | .own false xs => some (.list xs)
  | _ => none
def resL : SD → Option (List PyData)
  | .own false xs => some xs
  | _ => none
def sCall (n : Nat) (m : Fn) (fs : AS) : ES := fun S => (sCallR n m fs S).bind fun p => (resD p.1).map fun x => (.dat x, p.2)
def sCallL (n : Nat) (m : Fn) (fs : AS) : LS := fun S => (sCallR n m fs S).bind fun p => (resL p.1).map fun x => (x, p.2)
def tCallG (sp : Sp) (t : TA) : TE := fun σ H Q => t σ H fun vs H1 => sp vs H1 Q E0
def tPerm (pm : List Nat) (t : TA) : TA := fun σ H Q => t σ H fun vs H1 => Q (perm pm vs) H1
def tApp (n k : Nat) (t u : TA) : TA := fun σ H Q => t σ H fun vs H1 => u σ H1 fun ws H2 => vs.length = n ∧ ws.length = k ∧ Q (vs ++ ws) H2
section
variable {K : PySem.W.Frag} {tA tB : TA} {fs gs : AS} {n : Nat} {m : Fn}
theorem OpRs.append {G : Hp} {σ : L2.St} : ∀ {vs ws : List V} {os ps : List Op}, OpRs K G σ vs os → OpRs K G σ ws ps → OpRs K G σ (vs ++ ws) (os ++ ps)
  | _, _, _, _, .nil, h => h
  | _, _, _, _, .cons a b, h => .cons a (b.append h)
theorem sem_app {a b : Nat} (h1 : SemA K tA fs) (h2 : SemA K tB gs) : SemA K (tApp a b tA tB) (sApp a b fs gs) := by
  intro F S σ H G o S' r ef Q k
  obtain ⟨⟨o1, S1⟩, e1, e2⟩ := Option.bind_eq_some_iff.mp ef
  obtain ⟨⟨o2, S2⟩, e3, e4⟩ := Option.bind_eq_some_iff.mp e2
  split at e4
  · rename_i hl
    cases e4
    refine h1 F S σ H G o1 S1 r e1 _ fun v H1 G1 r1 g1 q1 => ?_
    refine h2 F S1 σ H1 G1 o2 _ r1 e3 _ fun vs H2 G2 r2 g2 q2 => ?_
    exact ⟨q1.length.trans hl.1, q2.length.trans hl.2, k _ H2 G2 r2 (g1.trans g2) ((q1.mono g2).append q2)⟩
  · cases e4
theorem sem_perm {pm : List Nat} (h1 : SemA K tA fs) : SemA K (tPerm pm tA) (sPerm pm fs) := by
  intro F S σ H G o S' r ef Q k
  obtain ⟨⟨o1, S1⟩, e1, e2⟩ := Option.map_eq_some_iff.mp ef
  cases e2
  exact h1 F S σ H G o1 _ r e1 _ fun v H1 G1 r1 g1 q1 => k _ H1 G1 r1 g1 (perm_rel q1 pm)
theorem sem_callR (h1 : SemA K tA fs) {F : Fr} {S S' : List SD} {σ : L2.St} {H G : Hp} {rs : SD} (r : SR K F S σ H G) (ef : sCallR n m fs S = some (rs, S')) {Q : VK}
    (k : ∀ v H' G', SR K F S' σ H' G' → Ex G G' → ResR K F S' σ H' G' v rs → Q v H') : tCallG (spM K n m) tA σ H Q := by
  obtain ⟨⟨os, S1⟩, e1, ef⟩ := Option.bind_eq_some_iff.mp ef
  obtain ⟨Dl, e2, ef⟩ := Option.bind_eq_some_iff.mp ef
  split at ef
  · rename_i hc
    obtain ⟨⟨rs', Dl'⟩, e3, e4⟩ := Option.map_eq_some_iff.mp ef
    cases e4
    refine h1 F S σ H G os S1 r e1 _ fun vs H1 G1 r1 g1 q1 => ?_
    refine ⟨Dl, G1, _, Dl', by rw [q1.length]; exact hc.1, r1.args q1 e2 hc.2, e3, fun v H' G' r' => ?_⟩
    obtain ⟨t1, t2⟩ := r1.called q1 e2 r'
    exact k v H' G' t1 (g1.trans r'.g0) t2
  · cases ef
theorem sem_call (h1 : SemA K tA fs) : SemE K (tCallG (spM K n m) tA) (sCall n m fs) := by
  intro F S σ H G o S' r ef Q k
  obtain ⟨⟨rs, S1⟩, e1, ef⟩ := Option.bind_eq_some_iff.mp ef
  obtain ⟨x, e2, e3⟩ := Option.map_eq_some_iff.mp ef
  cases e3
  refine sem_callR h1 r e1 fun v H' G' r1 g1 hr => ?_
  cases rs with
  | un => cases e2
  | d y => cases e2; exact k v H' G' r1 g1 hr
  | own b xs =>
    cases b with
    | true => cases e2
    | false =>
      cases e2
      obtain ⟨p, vs, rfl, h0, hg, ap, hh, ha⟩ := hr
      obtain ⟨G2, g2, r2, h2⟩ := r1.known h0 hg ap hh ha
      exact k _ H' G2 r2 (g1.trans g2) h2
theorem sem_callL (h1 : SemA K tA fs) : SemL K (tCallG (spM K n m) tA) (sCallL n m fs) := by
  intro F S σ H G o S' r ef Q k
  obtain ⟨⟨rs, S1⟩, e1, ef⟩ := Option.bind_eq_some_iff.mp ef
  obtain ⟨x, e2, e3⟩ := Option.map_eq_some_iff.mp ef
  cases e3
  refine sem_callR h1 r e1 fun v H' G' r1 g1 hr => ?_
  cases rs with
  | un => cases e2
  | d y => cases e2
  | own b xs =>
    cases b with
    | true => cases e2
    | false =>
      cases e2
      obtain ⟨p, vs, rfl, h0, hg, ap, hh, ha⟩ := hr
      exact k p vs H' G' r1 g1 h0 hg ap hh ha
end
section
variable {X : Cx} {K : PySem.W.Frag} {k : Nat} {f : Addr} {fd : FuncData} {ps ks : List Str} {m : Fn} {x : Str} {p pos : Pos} {e : Expr} {es : List Expr} {kws : List Keyword} {t u : TA} {fs gs : AS} {pm : List Nat}
/-- what a body knows of a def that it calls -/
structure Cal (P : Program) (w : World) (K : PySem.W.Frag) (mg : Str → Option Value) (base : Heap) (k : Nat) (x : Str) (ps : List Str) (m : Fn) (f : Addr) (fd : FuncData) : Prop where
  ok : FnG P w K mg base k f fd ps m
  mg : mg x = some (.ref f)
  kp : PySem.W.keepIn K (.ref f) = true
  bn : Binds K fd ps []
theorem after_call {pins : List (Addr × Obj)} {σ : L2.St} {H : Hp} {s : Shared} {Q : VK} {r : Result} {s' : Shared} (I : Inv X pins σ H s) (hq : CR CX0 X.stack X.prog X.w H s Q E0 r s') : (match r with
    | .ok (.ret u) => EP X pins σ Q u s'
    | _ => False) := by
  cases r with
  | error e => exact hq
  | ok fl =>
    cases fl with
    | ret u => exact I.after hq
    | next => exact hq
    | brk => exact hq
    | cont => exact hq
theorem run_G (F : FnG X.prog X.w X.K X.mg X.base k f fd ps m) (hr : Room k X.A) (hgd : X.A.guards = some []) {pins : List (Addr × Obj)} {σ : L2.St} {H : Hp} {s : Shared} {Q : VK} {us pu : List Value} {kw : List (Str × Value)} {vs : List V}
    (I : Inv X pins σ H s) (hb : BindsTo s fd ⟨us, kw⟩ (ps.zip pu)) (rv : Vals vs pu) (h : spM X.K ps.length m vs H Q E0) : wpAny (model X.prog X.w) X.A (call (.ref f) us kw) (EP X pins σ Q) X.xe s := by
  refine wpAny_call (codeAny_mono (F.run X.A X.stack s H ⟨us, kw⟩ pu vs Q hr hgd I.env0 hb rv h) fun r s' hq => ?_)
  have z := after_call I hq
  cases r with
  | error e => exact z.elim
  | ok fl =>
    cases fl with
    | ret u => exact z
    | next => exact z.elim
    | brk => exact z.elim
    | cont => exact z.elim
theorem pe_callG (hK : X.K = K) (C : Cal X.prog X.w K X.mg X.base k x ps m f fd) (hr : Room k X.A) (hgd : X.A.guards = some []) (ha : PA X (e :: es) t) (hg : Gl X x := by rfl) (hdb : (x == ("__debug__" : Str)) = false := by decide)
    (he : starEach (e :: es) X.env = (false, eval e X.env) :: starEach es X.env := by rfl) (hpl : (backTo pos (starEach es X.env)).any (·.1) = false := by rfl) : PE X (.Call (.Name x p) (e :: es) [] pos) (tCallG (spM K ps.length m) t) := by
  subst hK
  constructor
  intro pins s σ H Q I h
  refine wpAny_Call_Name_kw (ld_glob I hg C.mg ?_ hdb)
  refine PySem.W.callWith_K (h₀ := X.base) I.ok.mod.kin C.kp (thn (ha.run pos pins s σ H _ I h) ?_) he hpl
  rintro us s1 ⟨vs, H1, I1, r, q⟩
  have hl : us.length = ps.length := by
    obtain ⟨_, _, _, _, z, _⟩ := q
    rw [← r.length]; exact z
  have b := C.bn s1 us I1.kIn (by simpa using hl)
  rw [List.append_nil] at b
  exact ⟨I1.kIn, run_G C.ok hr hgd I1 b r q⟩
theorem pe_callG0 (hK : X.K = K) (C : Cal X.prog X.w K X.mg X.base k x ps m f fd) (hr : Room k X.A) (hgd : X.A.guards = some []) (hg : Gl X x := by rfl) (hdb : (x == ("__debug__" : Str)) = false := by decide) : PE X (.Call (.Name x p) [] [] pos) (tCallG (spM K ps.length m) tNil) := by
  subst hK
  constructor
  intro pins s σ H Q I q
  refine wpAny_Call_Name_kw (ld_glob I hg C.mg ?_ hdb)
  have hl : ([] : List Value).length = ps.length := by
    obtain ⟨_, _, _, _, z, _⟩ := q
    exact z
  have b := C.bn s [] I.kIn (by simpa using hl)
  exact PySem.W.callWith_K0 I.kIn C.kp (run_G C.ok hr hgd I (by simpa using b) .nil q)
/-- how the written values, the last ones by name, come to the parameters -/
def KwB (K : PySem.W.Frag) (fd : FuncData) (ps ks : List Str) (pm : List Nat) : Prop := ∀ (s : Shared) (us ws : List Value), K.In s.heap → us.length + ks.length = ps.length → ws.length = ks.length → BindsTo s fd ⟨us, ks.zip ws⟩ (ps.zip (perm pm (us ++ ws)))
theorem pe_callGK {n j : Nat} (hK : X.K = K) (C : Cal X.prog X.w K X.mg X.base k x ps m f fd) (B : KwB K fd ps ks pm) (hr : Room k X.A) (hgd : X.A.guards = some []) (ha : PA X (e :: es) t) (hkw : PK X kws u) (hn : n + ks.length = ps.length) (hj : j = ks.length)
    (hall : (backToKw pos (keywordEach kws X.env)).all (·.1.isSome) = true := by rfl) (hks : (backToKw pos (keywordEach kws X.env)).filterMap (·.1) = ks := by rfl) (hg : Gl X x := by rfl) (hdb : (x == ("__debug__" : Str)) = false := by decide)
    (he : starEach (e :: es) X.env = (false, eval e X.env) :: starEach es X.env := by rfl) (hpl : ((backTo pos (starEach (e :: es) X.env)).any (·.1) || (backToKw pos (keywordEach kws X.env)).any (·.1.isNone)) = false := by rfl) :
    PE X (.Call (.Name x p) (e :: es) kws pos) (tCallG (spM K ps.length m) (tPerm pm (tApp n j t u))) := by
  subst hK
  constructor
  intro pins s σ H Q I h
  refine wpAny_Call_Name_kw (ld_glob I hg C.mg ?_ hdb)
  refine PySem.W.callWith_KW (h₀ := X.base) I.ok.mod.kin C.kp hall (thn (ha.run pos pins s σ H _ I h) ?_) hpl he
  rintro us s1 ⟨vs, H1, I1, r, q⟩
  refine thn (hkw.run pos pins s1 σ H1 _ I1 q) ?_
  rintro ws s2 ⟨zs, H2, I2, rz, l1, l2, q2⟩
  refine ⟨I2.kIn, ?_⟩
  rw [hks]
  exact run_G C.ok hr hgd I2 (B s2 us ws I2.kIn (by rw [← r.length]; omega) (by rw [← rz.length]; omega)) (perm_vals (r.append rz) pm) q2
theorem pe_callGK0 {j : Nat} (hK : X.K = K) (C : Cal X.prog X.w K X.mg X.base k x ps m f fd) (B : KwB K fd ps ks pm) (hr : Room k X.A) (hgd : X.A.guards = some []) (hkw : PK X kws u) (hn : ks.length = ps.length) (hj : j = ks.length)
    (hall : (backToKw pos (keywordEach kws X.env)).all (·.1.isSome) = true := by rfl) (hks : (backToKw pos (keywordEach kws X.env)).filterMap (·.1) = ks := by rfl) (hg : Gl X x := by rfl) (hdb : (x == ("__debug__" : Str)) = false := by decide)
    (hpl : ((backTo pos (starEach [] X.env)).any (·.1) || (backToKw pos (keywordEach kws X.env)).any (·.1.isNone)) = false := by rfl) :
    PE X (.Call (.Name x p) [] kws pos) (tCallG (spM K ps.length m) (tPerm pm (tApp 0 j tNil u))) := by
  subst hK
  constructor
  intro pins s σ H Q I h
  refine wpAny_Call_Name_kw (ld_glob I hg C.mg ?_ hdb)
  refine PySem.W.callWith_KW0 (h₀ := X.base) I.ok.mod.kin C.kp hall (thn (hkw.run pos pins s σ H _ I h) ?_) hpl
  rintro ws s2 ⟨zs, H2, I2, rz, _, l2, q2⟩
  refine ⟨I2.kIn, ?_⟩
  rw [hks]
  exact run_G C.ok hr hgd I2 (B s2 [] ws I2.kIn (by simpa using hn) (by rw [← rz.length]; omega)) (perm_vals rz pm) q2
structure SK (X : Cx) (K : PySem.W.Frag) (kws : List Keyword) (t : TA) (f : AS) : Prop where
  p : PK X kws t
  ok : SemA K t f
theorem sk_nil : SK X K [] tNil sNil := ⟨pk_nil, sem_nil⟩
theorem sk_cons {te : TE} {fe : ES} {nm : Option Str} {kpos : Pos} (h : SE X K e te fe) (h2 : SK X K kws t fs) : SK X K (⟨nm, e, kpos⟩ :: kws) (tCons te t) (sCons fe fs) := ⟨pk_cons h.p h2.p, sem_cons h.ok h2.ok⟩
/-! the four forms of a call, as an operand and as a new list -/
theorem se_call (hK : X.K = K) (C : Cal X.prog X.w K X.mg X.base k x ps m f fd) (hr : Room k X.A) (hgd : X.A.guards = some []) (ha : SA X K (e :: es) t fs) (hg : Gl X x := by rfl) (hdb : (x == ("__debug__" : Str)) = false := by decide)
    (he : starEach (e :: es) X.env = (false, eval e X.env) :: starEach es X.env := by rfl) (hpl : (backTo pos (starEach es X.env)).any (·.1) = false := by rfl) : SE X K (.Call (.Name x p) (e :: es) [] pos) (tCallG (spM K ps.length m) t) (sCall ps.length m fs) := ⟨pe_callG hK C hr hgd ha.p hg hdb he hpl, sem_call ha.ok⟩
theorem sl_call (hK : X.K = K) (C : Cal X.prog X.w K X.mg X.base k x ps m f fd) (hr : Room k X.A) (hgd : X.A.guards = some []) (ha : SA X K (e :: es) t fs) (hg : Gl X x := by rfl) (hdb : (x == ("__debug__" : Str)) = false := by decide)
    (he : starEach (e :: es) X.env = (false, eval e X.env) :: starEach es X.env := by rfl) (hpl : (backTo pos (starEach es X.env)).any (·.1) = false := by rfl) : SL X K (.Call (.Name x p) (e :: es) [] pos) (tCallG (spM K ps.length m) t) (sCallL ps.length m fs) := ⟨pe_callG hK C hr hgd ha.p hg hdb he hpl, sem_callL ha.ok⟩
theorem se_call0 (hK : X.K = K) (C : Cal X.prog X.w K X.mg X.base k x ps m f fd) (hr : Room k X.A) (hgd : X.A.guards = some []) (hg : Gl X x := by rfl) (hdb : (x == ("__debug__" : Str)) = false := by decide) : SE X K (.Call (.Name x p) [] [] pos) (tCallG (spM K ps.length m) tNil) (sCall ps.length m sNil) := ⟨pe_callG0 hK C hr hgd hg hdb, sem_call sem_nil⟩
theorem se_callK {n j : Nat} (hK : X.K = K) (C : Cal X.prog X.w K X.mg X.base k x ps m f fd) (B : KwB K fd ps ks pm) (hr : Room k X.A) (hgd : X.A.guards = some []) (ha : SA X K (e :: es) t fs) (hkw : SK X K kws u gs) (hn : n + ks.length = ps.length := by rfl) (hj : j = ks.length := by rfl)
    (hall : (backToKw pos (keywordEach kws X.env)).all (·.1.isSome) = true := by rfl) (hks : (backToKw pos (keywordEach kws X.env)).filterMap (·.1) = ks := by rfl) (hg : Gl X x := by rfl) (hdb : (x == ("__debug__" : Str)) = false := by decide)
    (he : starEach (e :: es) X.env = (false, eval e X.env) :: starEach es X.env := by rfl) (hpl : ((backTo pos (starEach (e :: es) X.env)).any (·.1) || (backToKw pos (keywordEach kws X.env)).any (·.1.isNone)) = false := by rfl) :
    SE X K (.Call (.Name x p) (e :: es) kws pos) (tCallG (spM K ps.length m) (tPerm pm (tApp n j t u))) (sCall ps.length m (sPerm pm (sApp n j fs gs))) := ⟨pe_callGK hK C B hr hgd ha.p hkw.p hn hj hall hks hg hdb he hpl, sem_call (sem_perm (sem_app ha.ok hkw.ok))⟩
theorem sl_callK {n j : Nat} (hK : X.K = K) (C : Cal X.prog X.w K X.mg X.base k x ps m f fd) (B : KwB K fd ps ks pm) (hr : Room k X.A) (hgd : X.A.guards = some []) (ha : SA X K (e :: es) t fs) (hkw : SK X K kws u gs) (hn : n + ks.length = ps.length := by rfl) (hj : j = ks.length := by rfl)
    (hall : (backToKw pos (keywordEach kws X.env)).all (·.1.isSome) = true := by rfl) (hks : (backToKw pos (keywordEach kws X.env)).filterMap (·.1) = ks := by rfl) (hg : Gl X x := by rfl) (hdb : (x == ("__debug__" : Str)) = false := by decide)
    (he : starEach (e :: es) X.env = (false, eval e X.env) :: starEach es X.env := by rfl) (hpl : ((backTo pos (starEach (e :: es) X.env)).any (·.1) || (backToKw pos (keywordEach kws X.env)).any (·.1.isNone)) = false := by rfl) :
    SL X K (.Call (.Name x p) (e :: es) kws pos) (tCallG (spM K ps.length m) (tPerm pm (tApp n j t u))) (sCallL ps.length m (sPerm pm (sApp n j fs gs))) := ⟨pe_callGK hK C B hr hgd ha.p hkw.p hn hj hall hks hg hdb he hpl, sem_callL (sem_perm (sem_app ha.ok hkw.ok))⟩
theorem se_callK0 {j : Nat} (hK : X.K = K) (C : Cal X.prog X.w K X.mg X.base k x ps m f fd) (B : KwB K fd ps ks pm) (hr : Room k X.A) (hgd : X.A.guards = some []) (hkw : SK X K kws u gs) (hn : ks.length = ps.length := by rfl) (hj : j = ks.length := by rfl)
    (hall : (backToKw pos (keywordEach kws X.env)).all (·.1.isSome) = true := by rfl) (hks : (backToKw pos (keywordEach kws X.env)).filterMap (·.1) = ks := by rfl) (hg : Gl X x := by rfl) (hdb : (x == ("__debug__" : Str)) = false := by decide)
    (hpl : ((backTo pos (starEach [] X.env)).any (·.1) || (backToKw pos (keywordEach kws X.env)).any (·.1.isNone)) = false := by rfl) :
    SE X K (.Call (.Name x p) [] kws pos) (tCallG (spM K ps.length m) (tPerm pm (tApp 0 j tNil u))) (sCall ps.length m (sPerm pm (sApp 0 j sNil gs))) := ⟨pe_callGK0 hK C B hr hgd hkw.p hn hj hall hks hg hdb hpl, sem_call (sem_perm (sem_app sem_nil hkw.ok))⟩
theorem sl_callK0 {j : Nat} (hK : X.K = K) (C : Cal X.prog X.w K X.mg X.base k x ps m f fd) (B : KwB K fd ps ks pm) (hr : Room k X.A) (hgd : X.A.guards = some []) (hkw : SK X K kws u gs) (hn : ks.length = ps.length := by rfl) (hj : j = ks.length := by rfl)
    (hall : (backToKw pos (keywordEach kws X.env)).all (·.1.isSome) = true := by rfl) (hks : (backToKw pos (keywordEach kws X.env)).filterMap (·.1) = ks := by rfl) (hg : Gl X x := by rfl) (hdb : (x == ("__debug__" : Str)) = false := by decide)
    (hpl : ((backTo pos (starEach [] X.env)).any (·.1) || (backToKw pos (keywordEach kws X.env)).any (·.1.isNone)) = false := by rfl) :
    SL X K (.Call (.Name x p) [] kws pos) (tCallG (spM K ps.length m) (tPerm pm (tApp 0 j tNil u))) (sCallL ps.length m (sPerm pm (sApp 0 j sNil gs))) := ⟨pe_callGK0 hK C B hr hgd hkw.p hn hj hall hks hg hdb hpl, sem_callL (sem_perm (sem_app sem_nil hkw.ok))⟩
end
end DL

set_option Elab.async false
set_option linter.all false
set_option maxRecDepth 100000
set_option maxHeartbeats 4000000
/-! DL, part 5: operators and built-ins over data. -/
namespace DL
open PySem PySem.Spec PyProof.Rows L2

/-! ### data that == takes -/
def fitN (n : Nat) (d : PyData) : Bool := d.canLay0 && decide (d.depth ≤ n)
theorem fit_shaped {d : PyData} (h : fitN 60 d = true) : SeqAt.shaped d = true := by
  unfold fitN at h
  unfold SeqAt.shaped
  rw [Bool.and_eq_true, decide_eq_true_eq] at h ⊢
  exact ⟨h.1, by omega⟩
theorem canLayAll_all : ∀ xs : List PyData, PyData.canLayAll0 xs = xs.all fun d => d.canLay0
  | [] => by simp [PyData.canLayAll0]
  | x :: xs => by simp [PyData.canLayAll0, canLayAll_all xs]
theorem depthAll_le (n : Nat) : ∀ xs : List PyData, decide (PyData.depthAll xs ≤ n) = xs.all fun d => decide (d.depth ≤ n)
  | [] => by simp [PyData.depthAll]
  | x :: xs => by
    have ih := depthAll_le n xs
    simp only [PyData.depthAll, List.all_cons, ← ih, ← Bool.decide_and]
    congr 1
    simp only [eq_iff_iff]
    omega
theorem all_and (p q : PyData → Bool) : ∀ xs : List PyData, (xs.all p && xs.all q) = xs.all fun d => p d && q d
  | [] => rfl
  | x :: xs => by
    rw [List.all_cons, List.all_cons, List.all_cons, ← all_and p q xs]
    cases p x <;> cases q x <;> simp
theorem fit_tuple (n : Nat) (xs : List PyData) : fitN (n + 1) (.tuple xs) = xs.all (fitN n) := by
  show (PyData.canLay0 (.tuple xs) && decide (PyData.depth (.tuple xs) ≤ n + 1)) = xs.all fun d => d.canLay0 && decide (d.depth ≤ n)
  rw [← all_and, ← depthAll_le n xs, ← canLayAll_all]
  simp only [PyData.canLay0, PyData.depth, Nat.add_le_add_iff_right]
theorem fit_list (n : Nat) (xs : List PyData) : fitN (n + 1) (.list xs) = xs.all (fitN n) := by
  show (PyData.canLay0 (.list xs) && decide (PyData.depth (.list xs) ≤ n + 1)) = xs.all fun d => d.canLay0 && decide (d.depth ≤ n)
  rw [← all_and, ← depthAll_le n xs, ← canLayAll_all]
  simp only [PyData.canLay0, PyData.depth, Nat.add_le_add_iff_right]
theorem fit_int (n : Nat) (i : Int) : fitN n (.int i) = true := by simp [fitN, PyData.canLay0, PyData.depth]
theorem fit_bool (n : Nat) (i : Bool) : fitN n (.bool i) = true := by simp [fitN, PyData.canLay0, PyData.depth]
theorem fit_none (n : Nat) : fitN n .none = true := by simp [fitN, PyData.canLay0, PyData.depth]
theorem fit_str (n : Nat) (x : Str) : fitN n (.str x) = PyData.strOk x := by simp [fitN, PyData.canLay0, PyData.depth]
theorem fit_mono {n m : Nat} {d : PyData} (h : fitN n d = true) (hm : n ≤ m) : fitN m d = true := by
  unfold fitN at h ⊢
  rw [Bool.and_eq_true, decide_eq_true_eq] at h ⊢
  exact ⟨h.1, by omega⟩

section
variable {K : PySem.W.Frag} {H G : Hp}
mutual
theorem Rp.dp : ∀ {d : PyData} {v : V}, Rp K H v d → d.canLay0 = true → Dp K H v d
  | _, _, .non, _ => .non
  | _, _, .bl b, _ => .bl b
  | _, _, .int b, _ => .int b
  | _, _, .str b, _ => .str b
  | _, _, .lst h r, c => .lst (.inl (.inl h)) (RpAll.dp r (by simpa [PyData.canLay0] using c))
  | _, _, .tup h r, c => .tup h (RpAll.dp r (by simpa [PyData.canLay0] using c))
  | _, _, .dic h r, c => by simp [PyData.canLay0] at c
  | _, _, .scr h r, c => by simp [PyData.canLay0] at c
theorem RpAll.dp : ∀ {ds : List PyData} {vs : List V}, RpAll K H vs ds → PyData.canLayAll0 ds = true → DpAll K H vs ds
  | _, _, .nil, _ => .nil
  | _, _, .cons h r, c => by
    have c' := Bool.and_eq_true_iff.mp (show (_ && _) = true by simpa [PyData.canLayAll0] using c)
    exact .cons (Rp.dp h c'.1) (RpAll.dp r c'.2)
end
theorem fit_lay {n : Nat} {d : PyData} (h : fitN n d = true) : d.canLay0 = true := (Bool.and_eq_true_iff.mp h).1
theorem fit_depth {n : Nat} {d : PyData} (h : fitN n d = true) : d.depth ≤ n := of_decide_eq_true (Bool.and_eq_true_iff.mp h).2
theorem fit_items_l {n : Nat} {ds : List PyData} (h : fitN n (.list ds) = true) : PyData.canLayAll0 ds = true := by simpa [PyData.canLay0] using fit_lay h
theorem fit_items_t {n : Nat} {ds : List PyData} (h : fitN n (.tuple ds) = true) : PyData.canLayAll0 ds = true := by simpa [PyData.canLay0] using fit_lay h
end
section
variable {X : Cx} {K : PySem.W.Frag} {pins : List (Addr × Obj)} {σ : L2.St} {H : Hp} {s : Shared}
theorem Rp.reads {n : Nat} {d : PyData} {v : V} {u : Value} (I : Inv X pins σ H s) (h : Rp X.K H v d) (f : fitN n d = true) (r : RelV v u) : ∃ as, Reads s.heap u d as := Dp.reads I d v u (h.dp (fit_lay f)) r

/-! ### == and != -/
def strEq : PyData → PyData → Option Bool
  | .str a, .str b => some (decide (a = b))
  | _, _ => none
def dEq (x y : PyData) : Option PyData := match strEq x y with
  | some b => some (.bool b)
  | none => if fitN 60 x = true ∧ fitN 60 y = true then some (.bool (PyData.eqv x y)) else none
def dNe (x y : PyData) : Option PyData := match strEq x y with
  | some b => some (.bool (!b))
  | none => if fitN 60 x = true ∧ fitN 60 y = true then some (.bool (!PyData.eqv x y)) else none
theorem strEq_some {x y : PyData} {b : Bool} (h : strEq x y = some b) : ∃ a c, x = .str a ∧ y = .str c ∧ b = decide (a = c) := by
  unfold strEq at h
  split at h
  · cases h; exact ⟨_, _, rfl, rfl, rfl⟩
  · cases h
def rEqX (K : PySem.W.Frag) : R2 := fun x y H Q => rEqD K x y H Q ∨ rEq x y H Q
def rNeX (K : PySem.W.Frag) : R2 := fun x y H Q => rNeD K x y H Q ∨ rNe x y H Q
theorem opEq (hK : X.K = K) {k : Nat} (hr : Room k X.A) : L2.OpR X (compareOp .Eq) (rEqX K) := by subst hK; exact (op_eqD hr.units).or op_eq
theorem opNe (hK : X.K = K) {k : Nat} (hr : Room k X.A) : L2.OpR X (compareOp .NotEq) (rNeX K) := by subst hK; exact (op_neD hr.units).or op_ne
theorem dec_strV {a c : Str} : decide (V.str a = V.str c) = decide (a = c) := by simp
theorem vEq : V2 K (rEqX K) dEq := fun G H v w x y z e rx ry h Q k => by
  unfold dEq at h
  split at h
  · rename_i b hb
    cases h
    obtain ⟨a, c, rfl, rfl, rfl⟩ := strEq_some hb
    have e1 := rx.str
    have e2 := ry.str
    subst e1 e2
    refine .inr ⟨rfl, ?_⟩
    rw [dec_strV]
    exact k _ H G (.refl e) (.bl _)
  · split at h
    · rename_i f
      cases h
      exact .inl ⟨x, y, (rx.rp e).dp (fit_lay f.1), (ry.rp e).dp (fit_lay f.2), fit_shaped f.1, fit_shaped f.2, k _ H G (.refl e) (.bl _)⟩
    · cases h
theorem vNe : V2 K (rNeX K) dNe := fun G H v w x y z e rx ry h Q k => by
  unfold dNe at h
  split at h
  · rename_i b hb
    cases h
    obtain ⟨a, c, rfl, rfl, rfl⟩ := strEq_some hb
    have e1 := rx.str
    have e2 := ry.str
    subst e1 e2
    refine .inr ⟨rfl, ?_⟩
    rw [dec_strV]
    exact k _ H G (.refl e) (.bl _)
  · split at h
    · rename_i f
      cases h
      exact .inl ⟨x, y, (rx.rp e).dp (fit_lay f.1), (ry.rp e).dp (fit_lay f.2), fit_shaped f.1, fit_shaped f.2, k _ H G (.refl e) (.bl _)⟩
    · cases h

/-! ### in, not in -/
def dItems : PyData → Option (List PyData)
  | .list xs => some xs
  | .tuple xs => some xs
  | _ => none
def dIn (x y : PyData) : Option PyData := if fitN 60 x = true ∧ fitN 60 y = true then (dItems y).map fun ds => .bool (ds.any fun z => PyData.eqv z x) else none
def dNotIn (x y : PyData) : Option PyData := if fitN 60 x = true ∧ fitN 60 y = true then (dItems y).map fun ds => .bool (!ds.any fun z => PyData.eqv z x) else none
def rInA (K : PySem.W.Frag) (neg : Bool) : R2 := fun x y H Q => ∃ d ds, Rp K H x d ∧ fitN 60 d = true ∧ ((Rp K H y (.list ds) ∧ fitN 60 (.list ds) = true) ∨ (Rp K H y (.tuple ds) ∧ fitN 60 (.tuple ds) = true)) ∧ Q (.bl (if neg then !ds.any fun z => PyData.eqv z d else ds.any fun z => PyData.eqv z d)) H
theorem opIn (hK : X.K = K) {k : Nat} (hr : Room k X.A) : L2.OpR X (compareOp .In) (rInA K false) := by
  subst hK
  intro pins s σ H x y v u Q I rx ry h
  have hu : X.A.units + 65 < cLine := by have := hr.un; omega
  obtain ⟨d, ds, hd, fd, he, q⟩ := h
  obtain ⟨as, r1⟩ := hd.reads I fd rx
  rcases he with ⟨he, fe⟩ | ⟨he, fe⟩
  · obtain ⟨bs, r2⟩ := he.reads I fe ry
    exact SeqAt.in_list_reads r2 r1 (fit_lay fe) (fit_lay fd) (room_in_shaped (fit_shaped fd) hu) ⟨.bl _, H, I, rfl, q⟩
  · obtain ⟨bs, r2⟩ := he.reads I fe ry
    exact SeqAt.in_tuple_reads r2 r1 (fit_lay fe) (fit_lay fd) (room_in_shaped (fit_shaped fd) hu) ⟨.bl _, H, I, rfl, q⟩
theorem opNotIn (hK : X.K = K) {k : Nat} (hr : Room k X.A) : L2.OpR X (compareOp .NotIn) (rInA K true) := by
  subst hK
  intro pins s σ H x y v u Q I rx ry h
  have hu : X.A.units + 65 < cLine := by have := hr.un; omega
  obtain ⟨d, ds, hd, fd, he, q⟩ := h
  obtain ⟨as, r1⟩ := hd.reads I fd rx
  rcases he with ⟨he, fe⟩ | ⟨he, fe⟩
  · obtain ⟨bs, r2⟩ := he.reads I fe ry
    exact SeqAt.notIn_list_reads r2 r1 (fit_lay fe) (fit_lay fd) (room_in_shaped (fit_shaped fd) hu) ⟨.bl _, H, I, rfl, q⟩
  · obtain ⟨bs, r2⟩ := he.reads I fe ry
    exact SeqAt.notIn_tuple_reads r2 r1 (fit_lay fe) (fit_lay fd) (room_in_shaped (fit_shaped fd) hu) ⟨.bl _, H, I, rfl, q⟩
theorem vIn : V2 K (rInA K false) dIn := fun G H v w x y z e rx ry h Q k => by
  unfold dIn at h
  split at h
  · rename_i f
    obtain ⟨ds, h1, rfl⟩ := Option.map_eq_some_iff.mp h
    refine ⟨x, ds, rx.rp e, f.1, ?_, k _ H G (.refl e) (.bl _)⟩
    cases y with
    | list xs => cases h1; exact .inl ⟨ry.rp e, f.2⟩
    | tuple xs => cases h1; exact .inr ⟨ry.rp e, f.2⟩
    | _ => cases h1
  · cases h
theorem vNotIn : V2 K (rInA K true) dNotIn := fun G H v w x y z e rx ry h Q k => by
  unfold dNotIn at h
  split at h
  · rename_i f
    obtain ⟨ds, h1, rfl⟩ := Option.map_eq_some_iff.mp h
    refine ⟨x, ds, rx.rp e, f.1, ?_, k _ H G (.refl e) (.bl _)⟩
    cases y with
    | list xs => cases h1; exact .inl ⟨ry.rp e, f.2⟩
    | tuple xs => cases h1; exact .inr ⟨ry.rp e, f.2⟩
    | _ => cases h1
  · cases h

/-! ### is, is not: with None, with True and False -/
def isNoneD : PyData → Bool
  | .none => true
  | _ => false
def dIs (x y : PyData) : Option PyData := match y with
  | .none => some (.bool (isNoneD x))
  | .bool b => match x with
    | .bool a => some (.bool (decide (a = b)))
    | _ => none
  | _ => none
def dIsNot (x y : PyData) : Option PyData := match y with
  | .none => some (.bool (!isNoneD x))
  | .bool b => match x with
    | .bool a => some (.bool (!decide (a = b)))
    | _ => none
  | _ => none
def rIs (neg : Bool) : R2 := fun x y H Q => (y = .non ∧ Q (.bl (if neg then !decide (x = .non) else decide (x = .non))) H) ∨ ∃ a b : Bool, x = .bl a ∧ y = .bl b ∧ Q (.bl (if neg then !decide (a = b) else decide (a = b))) H
theorem opIs : L2.OpR X (compareOp .Is) (rIs false) := op_isN.or op_isBl
theorem opIsNot : L2.OpR X (compareOp .IsNot) (rIs true) := op_notN.or op_notBl
theorem RV.isNone {G : Hp} {v : V} {x : PyData} (h : RV K G H v x) : decide (v = .non) = isNoneD x := by
  cases x with
  | none => rw [h.non]; rfl
  | bool b => rw [h.bl]; rfl
  | int b => rw [h.int]; rfl
  | str b => rw [h.str]; rfl
  | list b =>
    rcases h with h | ⟨a, vs, xs, _, h2, _⟩
    · cases h; rfl
    · rw [h2]; rfl
  | tuple b =>
    rcases h with h | ⟨a, vs, xs, q, h2, _⟩
    · cases h; rfl
    · cases q
  | dict b =>
    rcases h with h | ⟨a, vs, xs, q, h2, _⟩
    · cases h <;> rfl
    · cases q
theorem vIs : V2 K (rIs false) dIs := fun G H v w x y z e rx ry h Q k => by
  unfold dIs at h
  cases y with
  | none =>
    cases h
    refine .inl ⟨ry.non, ?_⟩
    have := k _ H G (.refl e) (.bl (isNoneD x))
    rw [← rx.isNone] at this
    exact this
  | bool b =>
    cases x with
    | bool a => cases h; exact .inr ⟨a, b, rx.bl, ry.bl, k _ H G (.refl e) (.bl _)⟩
    | _ => cases h
  | _ => cases h
theorem vIsNot : V2 K (rIs true) dIsNot := fun G H v w x y z e rx ry h Q k => by
  unfold dIsNot at h
  cases y with
  | none =>
    cases h
    refine .inl ⟨ry.non, ?_⟩
    have := k _ H G (.refl e) (.bl (!isNoneD x))
    rw [← rx.isNone] at this
    exact this
  | bool b =>
    cases x with
    | bool a => cases h; exact .inr ⟨a, b, rx.bl, ry.bl, k _ H G (.refl e) (.bl _)⟩
    | _ => cases h
  | _ => cases h

/-! ### ints -/
def dI2 (g : Int → Int → PyData) (x y : PyData) : Option PyData := match x, y with
  | .int i, .int j => some (g i j)
  | _, _ => none
theorem vI2 {g : Int → Int → PyData} {h : Int → Int → V} (hg : ∀ i j G, Rp K G (h i j) (g i j)) : V2 K (rI0 h) (dI2 g) := fun G H v w x y z e rx ry q Q k => by
  cases x with
  | int i => cases y with
    | int j => cases q; exact ⟨i, j, rx.int, ry.int, k _ H G (.refl e) (hg i j G)⟩
    | _ => cases q
  | _ => cases q
def dLt := dI2 fun i j => .bool (decide (i < j))
def dLe := dI2 fun i j => .bool (decide (i ≤ j))
def dGt := dI2 fun i j => .bool (decide (j < i))
def dGe := dI2 fun i j => .bool (decide (j ≤ i))
def dSub := dI2 fun i j => .int (i - j)
theorem vLt : V2 K (rI0 fun i j => .bl (decide (i < j))) dLt := vI2 fun i j G => .bl _
theorem vLe : V2 K (rI0 fun i j => .bl (decide (i ≤ j))) dLe := vI2 fun i j G => .bl _
theorem vGt : V2 K (rI0 fun i j => .bl (decide (j < i))) dGt := vI2 fun i j G => .bl _
theorem vGe : V2 K (rI0 fun i j => .bl (decide (j ≤ i))) dGe := vI2 fun i j G => .bl _
theorem vSub : V2 K (rI0 fun i j => .int (i - j)) dSub := vI2 fun i j G => .int _
def dIC (C : Int → Int → Prop) [∀ i j, Decidable (C i j)] (g : Int → Int → PyData) (x y : PyData) : Option PyData := match x, y with
  | .int i, .int j => if C i j then some (g i j) else none
  | _, _ => none
theorem vIC {C : Int → Int → Prop} [∀ i j, Decidable (C i j)] {g : Int → Int → PyData} {h : Int → Int → V} (hg : ∀ i j G, Rp K G (h i j) (g i j)) : V2 K (rI C h) (dIC C g) := fun G H v w x y z e rx ry q Q k => by
  cases x with
  | int i => cases y with
    | int j =>
      have q : (if C i j then some (g i j) else none) = some z := q
      split at q
      · rename_i hc
        cases q; exact ⟨i, j, rx.int, ry.int, hc, k _ H G (.refl e) (hg i j G)⟩
      · cases q
    | _ => cases q
  | _ => cases q
noncomputable instance (i j : Int) : Decidable (CDiv i j) := Classical.propDecidable _
noncomputable instance (i j : Int) : Decidable (CPow i j) := Classical.propDecidable _
noncomputable instance (i j : Int) : Decidable (CMul i j) := Classical.propDecidable _
def dMod := dIC (fun _ j => 0 < j) fun i j => .int (i % j)
noncomputable def dDiv := dIC CDiv fun i j => .int (i / j)
noncomputable def dPow := dIC CPow fun i j => .int (i ^ j.toNat)
theorem vMod : V2 K (rI (fun _ j => 0 < j) fun i j => .int (i % j)) dMod := vIC fun i j G => .int _
theorem vDiv : V2 K (rI CDiv fun i j => .int (i / j)) dDiv := vIC fun i j G => .int _
theorem vPow : V2 K (rI CPow fun i j => .int (i ^ j.toNat)) dPow := vIC fun i j G => .int _
def dNeg : PyData → Option PyData
  | .int i => some (.int (-i))
  | _ => none
theorem vNeg : V1 K (rU fun i => .int (-i)) dNeg := fun G H v x z e rx q Q k => by
  cases x with
  | int i => cases q; exact ⟨i, rx.int, k _ H G (.refl e) (.int _)⟩
  | _ => cases q

/-! ### +, * -/
def dAdd (x y : PyData) : Option PyData := match x, y with
  | .int i, .int j => some (.int (i + j))
  | .str a, .str b => if a.length + b.length ≤ 100000 then some (.str (a ++ b)) else none
  | .tuple xs, .tuple ys => if xs.length + ys.length ≤ 100000 then some (.tuple (xs ++ ys)) else none
  | .list xs, .list ys => if xs.length + ys.length ≤ 100000 then some (.list (xs ++ ys)) else none
  | _, _ => none
def dAddL (x y : PyData) : Option (List PyData) := match x, y with
  | .list xs, .list ys => if xs.length + ys.length ≤ 100000 then some (xs ++ ys) else none
  | _, _ => none
def rAddA (K : PySem.W.Frag) : R2 := fun x y H Q => rI0 (fun i j => .int (i + j)) x y H Q ∨ (∃ i j, x = .str i ∧ y = .str j ∧ i.length + j.length ≤ sizeLine ∧ Q (.str (i ++ j)) H) ∨ rCatA K x y H Q ∨ rCat x y H Q
theorem opAdd (hK : X.K = K) : L2.OpR X (binaryOp .Add) (rAddA K) := by subst hK; exact op_add.or (op_add_str.or (op_catA.or op_cat))
theorem vAdd : V2 K (rAddA K) dAdd := fun G H v w x y z e rx ry q Q k => by
  unfold dAdd at q
  cases x with
  | int i => cases y with
    | int j => cases q; exact .inl ⟨i, j, rx.int, ry.int, k _ H G (.refl e) (.int _)⟩
    | _ => cases q
  | str i => cases y with
    | str j =>
      have q : (if i.length + j.length ≤ 100000 then some (PyData.str (i ++ j)) else none) = some z := q
      split at q
      · rename_i hl
        cases q; exact .inr (.inl ⟨i, j, rx.str, ry.str, sz hl, k _ H G (.refl e) (.str _)⟩)
      · cases q
    | _ => cases q
  | tuple xs => cases y with
    | tuple ys =>
      have q : (if xs.length + ys.length ≤ 100000 then some (PyData.tuple (xs ++ ys)) else none) = some z := q
      split at q
      · rename_i hl
        cases q
        obtain ⟨a, vs, rfl, h1, h2⟩ := rx.tup e
        obtain ⟨b, ws, rfl, h3, h4⟩ := ry.tup e
        refine .inr (.inr (.inl ⟨a, b, vs, ws, rfl, rfl, h1, h3, by rw [h2.length, h4.length]; exact sz hl, fun hv => ?_, fun hv hw => ?_, fun hv hw p hp => ?_⟩))
        · subst hv
          cases h2
          rcases ry with ry | ⟨_, _, _, z, _⟩
          · exact k _ H G (.refl e) ry
          · cases z
        · subst hw
          cases h4
          rw [List.append_nil] at k
          rcases rx with rx | ⟨_, _, _, z, _⟩
          · exact k _ H G (.refl e) rx
          · cases z
        · have px := PX.laid (o := .tup (vs ++ ws)) e hp
          exact k _ _ _ px (.tup (.inl (.inl upd_same)) ((h2.append h4).mono px.gg))
      · cases q
    | _ => cases q
  | list xs => cases y with
    | list ys =>
      have q : (if xs.length + ys.length ≤ 100000 then some (PyData.list (xs ++ ys)) else none) = some z := q
      split at q
      · rename_i hl
        cases q
        obtain ⟨a, vs, rfl, h1, h2⟩ := rx.lst e
        obtain ⟨b, ws, rfl, h3, h4⟩ := ry.lst e
        refine .inr (.inr (.inr ⟨a, b, vs, ws, rfl, rfl, h1, h3, by rw [h2.length, h4.length]; exact sz hl, fun p hp => ?_⟩))
        have px := PX.laid (o := .lst (vs ++ ws)) e hp
        exact k _ _ _ px (.lst upd_same ((h2.append h4).mono px.gg))
      · cases q
    | _ => cases q
  | _ => cases q
theorem vAddL : V2L K (rAddA K) dAddL := fun G H v w x y z e rx ry q Q k => by
  unfold dAddL at q
  cases x with
  | list xs => cases y with
    | list ys =>
      have q : (if xs.length + ys.length ≤ 100000 then some (xs ++ ys) else none) = some z := q
      split at q
      · rename_i hl
        cases q
        obtain ⟨a, vs, rfl, h1, h2⟩ := rx.lst e
        obtain ⟨b, ws, rfl, h3, h4⟩ := ry.lst e
        refine .inr (.inr (.inr ⟨a, b, vs, ws, rfl, rfl, h1, h3, by rw [h2.length, h4.length]; exact sz hl, fun p hp => ?_⟩))
        exact k p (vs ++ ws) _ G (PX.side e hp) hp (e.free hp) upd_same (h2.append h4)
      · cases q
    | _ => cases q
  | _ => cases q
noncomputable def dMul (x y : PyData) : Option PyData := match x, y with
  | .int i, .int j => if CMul i j then some (.int (i * j)) else none
  | .tuple xs, .int k => if xs ≠ [] ∧ 2 ≤ k ∧ k ≤ 1000 ∧ xs.length ≤ 1000 then some (.tuple (List.replicate k.toNat xs).flatten) else none
  | .list xs, .int k => if 0 ≤ k ∧ k ≤ 1000 ∧ xs.length ≤ 1000 then some (.list (List.replicate k.toNat xs).flatten) else none
  | _, _ => none
def rMulA (K : PySem.W.Frag) : R2 := fun x y H Q => rI CMul (fun i j => .int (i * j)) x y H Q ∨ rRepT K x y H Q ∨ rRep x y H Q
theorem opMul (hK : X.K = K) : L2.OpR X (binaryOp .Mult) (rMulA K) := by subst hK; exact op_mul.or (op_repT.or op_rep)
theorem rep_len (n : Nat) (k : Nat) (xs : List PyData) : ((List.replicate k xs).flatten).length = k * xs.length := by
  induction k with
  | zero => simp
  | succ k ih => rw [List.replicate_succ, List.flatten_cons, List.length_append, ih, Nat.succ_mul]; omega
theorem vMul : V2 K (rMulA K) dMul := fun G H v w x y z e rx ry q Q k => by
  unfold dMul at q
  cases x with
  | int i => cases y with
    | int j =>
      have q : (if CMul i j then some (PyData.int (i * j)) else none) = some z := q
      split at q
      · rename_i hc
        cases q; exact .inl ⟨i, j, rx.int, ry.int, hc, k _ H G (.refl e) (.int _)⟩
      · cases q
    | _ => cases q
  | tuple xs => cases y with
    | int j =>
      have q : (if xs ≠ [] ∧ 2 ≤ j ∧ j ≤ 1000 ∧ xs.length ≤ 1000 then some (PyData.tuple (List.replicate j.toNat xs).flatten) else none) = some z := q
      split at q
      · rename_i hc
        cases q
        obtain ⟨a, vs, rfl, h1, h2⟩ := rx.tup e
        refine .inr (.inl ⟨a, j, vs, rfl, ry.int, h1, fun hv => ?_, hc.2.1, hc.2.2.1, by rw [h2.length]; exact hc.2.2.2, fun p hp => ?_⟩)
        · subst hv; cases h2; exact hc.1 rfl
        · have px := PX.laid (o := .tup (List.replicate j.toNat vs).flatten) e hp
          exact k _ _ _ px (.tup (.inl (.inl upd_same)) ((h2.flat _).mono px.gg))
      · cases q
    | _ => cases q
  | list xs => cases y with
    | int j =>
      have q : (if 0 ≤ j ∧ j ≤ 1000 ∧ xs.length ≤ 1000 then some (PyData.list (List.replicate j.toNat xs).flatten) else none) = some z := q
      split at q
      · rename_i hc
        cases q
        obtain ⟨a, vs, rfl, h1, h2⟩ := rx.lst e
        refine .inr (.inr ⟨a, j, vs, rfl, ry.int, h1, by omega, by omega, ?_, fun p hp => ?_⟩)
        · rw [h2.length]
          have h5 : xs.length * j.toNat ≤ 1000 * 1000 := Nat.mul_le_mul hc.2.2 (by omega)
          exact Nat.le_trans h5 (by decide)
        · have px := PX.laid (o := .lst (List.replicate j.toNat vs).flatten) e hp
          exact k _ _ _ px (.lst upd_same ((h2.flat _).mono px.gg))
      · cases q
    | _ => cases q
  | _ => cases q
def dMulL (x y : PyData) : Option (List PyData) := match x, y with
  | .list xs, .int k => if 0 ≤ k ∧ k ≤ 1000 ∧ xs.length ≤ 1000 then some (List.replicate k.toNat xs).flatten else none
  | _, _ => none
theorem vMulL : V2L K (rMulA K) dMulL := fun G H v w x y z e rx ry q Q k => by
  unfold dMulL at q
  cases x with
  | list xs => cases y with
    | int j =>
      have q : (if 0 ≤ j ∧ j ≤ 1000 ∧ xs.length ≤ 1000 then some (List.replicate j.toNat xs).flatten else none) = some z := q
      split at q
      · rename_i hc
        cases q
        obtain ⟨a, vs, rfl, h1, h2⟩ := rx.lst e
        refine .inr (.inr ⟨a, j, vs, rfl, ry.int, h1, by omega, by omega, ?_, fun p hp => ?_⟩)
        · rw [h2.length]
          have h5 : xs.length * j.toNat ≤ 1000 * 1000 := Nat.mul_le_mul hc.2.2 (by omega)
          exact Nat.le_trans h5 (by decide)
        · exact k p _ _ G (PX.side e hp) hp (e.free hp) upd_same (h2.flat _)
      · cases q
    | _ => cases q
  | _ => cases q

/-! ### subscripts -/
theorem atI_rp {G : Hp} {vs : List V} {xs : List PyData} {i : Int} {d : PyData} (h : RpAll K G vs xs) (e : atI xs i = some d) : ∃ v, atI vs i = some v ∧ Rp K G v d := by
  obtain ⟨j, h1, h2⟩ := Option.bind_eq_some_iff.mp e
  obtain ⟨v, h3, h4⟩ := h.get h2
  exact ⟨v, by unfold atI; rw [h.length, h1]; exact h3, h4⟩
def dIx (x y : PyData) : Option PyData := match x, y with
  | .tuple xs, .int i => atI xs i
  | .list xs, .int i => atI xs i
  | .dict [(.none, .list xs)], .int i => atI xs i
  | .str z, .int i => if z.length ≤ 100000 then (atI z.cps.toList i).map fun c => .str ⟨#[c]⟩ else none
  | _, _ => none
theorem opIx (hK : X.K = K) : IxR X (rIx K) := by subst hK; exact ix_seq
theorem vIx : V2 K (rIx K) dIx := fun G H v w x y z e rx ry q Q k => by
  unfold dIx at q
  split at q
  · rename_i xs i
    obtain ⟨a, vs, rfl, h1, h2⟩ := rx.tup e
    obtain ⟨u, h3, h4⟩ := atI_rp h2 q
    exact .inr (.inl ⟨a, vs, i, u, rfl, ry.int, h1, h3, k _ H G (.refl e) h4⟩)
  · rename_i xs i
    obtain ⟨a, vs, rfl, h1, h2⟩ := rx.lst e
    obtain ⟨u, h3, h4⟩ := atI_rp h2 q
    exact .inl ⟨a, vs, i, u, rfl, ry.int, .inl (.inl h1), h3, k _ H G (.refl e) h4⟩
  · rename_i xs i
    obtain ⟨a, vs, rfl, h1, h2⟩ := rx.scr e
    obtain ⟨u, h3, h4⟩ := atI_rp h2 q
    exact .inl ⟨a, vs, i, u, rfl, ry.int, h1, h3, k _ H G (.refl e) h4⟩
  · rename_i y i
    split at q
    · rename_i hl
      obtain ⟨c, h1, rfl⟩ := Option.map_eq_some_iff.mp q
      exact .inr (.inr ⟨y, i, c, rx.str, ry.int, sz hl, h1, k _ H G (.refl e) (.str _)⟩)
    · cases q
  · cases q

/-! ### len -/
def dLen : List PyData → Option PyData
  | [.tuple xs] => some (.int xs.length)
  | [.list xs] => some (.int xs.length)
  | [.dict [(.none, .list xs)]] => some (.int xs.length)
  | [.str z] => if z.length ≤ 100000 then some (.int z.length) else none
  | _ => none
def rLenA (K : PySem.W.Frag) : List V → Hp → VK → Prop := fun xs H Q => ∃ x n, xs = [x] ∧ LenV K x H n ∧ Q (.int n) H
theorem crLen (hK : X.K = K) : CallR X (.builtin "len") (rLenA K) := by subst hK; exact call_len
theorem vLen : VN K (rLenA K) dLen := fun G H vs xs z e rs q Q k => by
  unfold dLen at q
  split at q
  · cases rs with
    | cons r t =>
      cases t
      cases q
      obtain ⟨a, ws, rfl, h1, h2⟩ := r.tup e
      exact ⟨_, _, rfl, .inr ⟨ws, h1, by rw [h2.length]⟩, k _ H G (.refl e) (.int _)⟩
  · cases rs with
    | cons r t =>
      cases t
      cases q
      obtain ⟨a, ws, rfl, h1, h2⟩ := r.lst e
      exact ⟨_, _, rfl, .inl ⟨ws, .inl (.inl h1), by rw [h2.length]⟩, k _ H G (.refl e) (.int _)⟩
  · cases rs with
    | cons r t =>
      cases t
      cases q
      obtain ⟨a, ws, rfl, h1, h2⟩ := r.scr e
      exact ⟨_, _, rfl, .inl ⟨ws, h1, by rw [h2.length]⟩, k _ H G (.refl e) (.int _)⟩
  · cases rs with
    | cons r t =>
      cases t
      split at q
      · rename_i hl
        cases q
        rw [r.str]
        exact ⟨_, _, rfl, ⟨sz hl, rfl⟩, k _ H G (.refl e) (.int _)⟩
      · cases q
  · cases q
end
end DL

set_option Elab.async false
set_option linter.all false
set_option maxRecDepth 100000
set_option maxHeartbeats 4000000
/-! DL, part 6: calls of built-ins, slices, repr, what is walked. -/
namespace DL
open PySem PySem.Spec PyProof.Rows L2

section
variable {X : Cx} {K : PySem.W.Frag} {pins : List (Addr × Obj)} {σ : L2.St} {H G : Hp} {s : Shared}
/-! ### isinstance -/
inductive Tg where | none | bool | int | str | list | tuple | dict
def Tg.name : Tg → String
  | .none => "NoneType" | .int => "int" | .bool => "bool" | .str => "str" | .list => "list" | .tuple => "tuple" | .dict => "dict"
def isScr : List (PyData × PyData) → Bool
  | [(.none, _)] => true
  | _ => false
def tgD : PyData → Option Tg
  | .none => some .none | .bool _ => some .bool | .int _ => some .int | .str _ => some .str | .list _ => some .list | .tuple _ => some .tuple
  | .dict kvs => if isScr kvs = true then none else some .dict
/-- what stands at such a tag is a T -/
def tgIs : Tg → Tg → Bool
  | .int, .int => true | .int, .bool => true | .bool, .bool => true | .str, .str => true | .list, .list => true | .tuple, .tuple => true | .dict, .dict => true | .none, .none => true
  | _, _ => false
def isTy (T : Tg) (x : PyData) : Option Bool := (tgD x).map (tgIs T)
theorem RpKV.noScr {kvs : List (Key × V)} {ds : List (PyData × PyData)} (h : RpKV K H kvs ds) : isScr ds = false := by
  cases h with
  | nil => rfl
  | @cons k v r d ds h1 h2 => cases k <;> cases ds <;> rfl
theorem rp_ty {v : V} {x : PyData} {t : Tg} (h : Rp K H v x) (e : tgD x = some t) : TyX K H v (.type t.name) := by
  cases h with
  | non => cases e; exact .base .non
  | bl b => cases e; exact .base (.bl b)
  | int b => cases e; exact .base (.int b)
  | str b => cases e; exact .base (.str b)
  | lst h r => cases e; exact .base (.lst h)
  | tup h r =>
    cases e
    rcases h with (h | ⟨o, h⟩) | ⟨o, its, n, h1, h2, _⟩
    · exact .base (.tup h)
    · exact .fTuple h
    · exact .kTuple h1 h2
  | @dic a kvs ds h r =>
    have e : (if isScr ds = true then none else some Tg.dict) = some t := e
    rw [r.noScr] at e
    cases e
    rcases h with h | ⟨o, h⟩
    · exact .base (.dK h)
    · exact .fDict h
  | scr h r => cases e
theorem kitT (T t : Tg) (hT : T ≠ .none) : kitB t.name T.name = some (tgIs T t) := by
  cases T <;> first | exact absurd rfl hT | (cases t <;> decide +kernel)
def tIsi (K : PySem.W.Frag) (te : TE) (T : Tg) : TE := tCB (rIsi K) (tCons te (tCons (tC (.ty T.name)) tNil))
def sIsi (T : Tg) (fe : ES) : ES := fun S => (fe S).bind fun p => (p.1.get p.2).bind fun x => (isTy T x).map fun b => (.dat (.bool b), p.2)
theorem sem_isi {te : TE} {fe : ES} {T : Tg} (hT : T ≠ .none) (h1 : SemE K te fe) : SemE K (tIsi K te T) (sIsi T fe) := by
  intro F S σ H G o S' r ef Q k
  obtain ⟨⟨o1, S1⟩, e1, ef⟩ := Option.bind_eq_some_iff.mp ef
  obtain ⟨x, e3, ef⟩ := Option.bind_eq_some_iff.mp ef
  obtain ⟨b, e5, ef⟩ := Option.map_eq_some_iff.mp ef
  cases ef
  obtain ⟨t, e6, rfl⟩ := Option.map_eq_some_iff.mp e5
  refine h1 F S σ H G o1 _ r e1 _ fun v H1 G1 r1 g1 h2 => ?_
  exact ⟨v, .ty T.name, _, _, tgIs T t, rfl, .ty _, rp_ty ((op_get r1 h2 e3).rp r1.gh) e6, kit_ty (kitT T t hT), k _ H1 G1 r1 g1 (.bl _)⟩
theorem se_isi {tn : Str} {T : Tg} {p p2 pos : Pos} {e : Expr} {te : TE} {fe : ES} (hK : X.K = K) (hT : T ≠ .none) (hm : X.mg "isinstance" = none) (hmT : X.mg tn = none) (hbT : bootBuiltins tn = some (.type T.name)) (he : SE X K e te fe) (hg : Gl X "isinstance" := by rfl) (hgT : Gl X tn := by rfl) (hnT : tn ≠ "__name__" := by decide) (hdT : (tn == ("__debug__" : Str)) = false := by decide)
    (hs1 : starEach [e, .Name tn p2] X.env = (false, eval e X.env) :: starEach [.Name tn p2] X.env := by rfl) (hs2 : starEach [.Name tn p2] X.env = (false, eval (.Name tn p2) X.env) :: starEach [] X.env := by rfl) (hpl : (backTo pos (starEach [.Name tn p2] X.env)).any (·.1) = false := by rfl) :
    SE X K (.Call (.Name "isinstance" p) [e, .Name tn p2] [] pos) (tIsi K te T) (sIsi T fe) := by
  subst hK
  exact ⟨pe_callB call_isi hg hm (by decide +kernel) (pa_cons he.p (pa_cons (pe_bltn hgT hmT hbT (by exact rfl) hnT hdT) pa_nil hs2) hs1) (by decide) (by decide) hs1 hpl, sem_isi hT he.ok⟩
/-- isinstance(x, (T, U)) -/
def sIsi2 (T U : Tg) (fe : ES) : ES := fun S => (fe S).bind fun p => (p.1.get p.2).bind fun x => (isTy T x).bind fun b => (isTy U x).map fun c => (.dat (.bool (b || c)), p.2)
def tIsi2 (K : PySem.W.Frag) (te : TE) (T U : Tg) : TE := tCB (rIsiT K) (tCons te (tCons (tTup (tCons (tC (.ty T.name)) (tCons (tC (.ty U.name)) tNil))) tNil))
theorem sem_isi2 {te : TE} {fe : ES} {T U : Tg} (hT : T ≠ .none) (hU : U ≠ .none) (h1 : SemE K te fe) : SemE K (tIsi2 K te T U) (sIsi2 T U fe) := by
  intro F S σ H G o S' r ef Q k
  obtain ⟨⟨o1, S1⟩, e1, ef⟩ := Option.bind_eq_some_iff.mp ef
  obtain ⟨x, e3, ef⟩ := Option.bind_eq_some_iff.mp ef
  obtain ⟨b, e5, ef⟩ := Option.bind_eq_some_iff.mp ef
  obtain ⟨c, e7, ef⟩ := Option.map_eq_some_iff.mp ef
  cases ef
  obtain ⟨t, e6, rfl⟩ := Option.map_eq_some_iff.mp e5
  obtain ⟨t', e8, rfl⟩ := Option.map_eq_some_iff.mp e7
  rw [e6] at e8; cases e8
  refine h1 F S σ H G o1 _ r e1 _ fun v H1 G1 r1 g1 h2 => ?_
  refine ⟨by show 2 ≤ sizeLine; decide, fun p hp => ?_⟩
  have px := PX.side (o := HO.tup [.ty T.name, .ty U.name]) r1.gh hp
  refine ⟨v, p, [.ty T.name, .ty U.name], _, [_, _], tgIs T t || tgIs U t, rfl, upd_same, .cons (.ty _) (.cons (.ty _) .nil), rp_ty (((op_get r1 h2 e3).rp r1.gh).mono px.hh) e6, ?_, k _ _ G1 (r1.ext px) g1 (.bl _)⟩
  refine kitAny_cons (kit_ty (kitT T t hT)) (fun q => kitAny_cons (kit_ty (kitT U t hU)) (fun q2 => by rw [q, q2]; exact kitAny_nil) (fun q2 => by rw [q2]; simp)) (fun q => by rw [q]; rfl)
theorem se_isi2 {tn un : Str} {T U : Tg} {p p2 p3 p4 pos : Pos} {k0} {e : Expr} {te : TE} {fe : ES} (hK : X.K = K) (hT : T ≠ .none) (hU : U ≠ .none) (hm : X.mg "isinstance" = none) (hmT : X.mg tn = none) (hbT : bootBuiltins tn = some (.type T.name)) (hmU : X.mg un = none) (hbU : bootBuiltins un = some (.type U.name)) (he : SE X K e te fe) (hg : Gl X "isinstance" := by rfl) (hgT : Gl X tn := by rfl) (hgU : Gl X un := by rfl) (hnT : tn ≠ "__name__" := by decide) (hdT : (tn == ("__debug__" : Str)) = false := by decide) (hnU : un ≠ "__name__" := by decide) (hdU : (un == ("__debug__" : Str)) = false := by decide)
    (hs1 : starEach [e, .Tuple [.Name tn p2, .Name un p3] k0 p4] X.env = (false, eval e X.env) :: starEach [.Tuple [.Name tn p2, .Name un p3] k0 p4] X.env := by rfl) (hs2 : starEach [.Tuple [.Name tn p2, .Name un p3] k0 p4] X.env = (false, eval (.Tuple [.Name tn p2, .Name un p3] k0 p4) X.env) :: starEach [] X.env := by rfl) (hs3 : starEach [.Name tn p2, .Name un p3] X.env = (false, eval (.Name tn p2) X.env) :: starEach [.Name un p3] X.env := by rfl) (hs4 : starEach [.Name un p3] X.env = (false, eval (.Name un p3) X.env) :: starEach [] X.env := by rfl) (hpl : (backTo pos (starEach [.Tuple [.Name tn p2, .Name un p3] k0 p4] X.env)).any (·.1) = false := by rfl) :
    SE X K (.Call (.Name "isinstance" p) [e, .Tuple [.Name tn p2, .Name un p3] k0 p4] [] pos) (tIsi2 K te T U) (sIsi2 T U fe) := by
  subst hK
  exact ⟨pe_callB call_isiT hg hm (by decide +kernel) (pa_cons he.p (pa_cons (pe_tup (pa_cons (pe_bltn hgT hmT hbT (by exact rfl) hnT hdT) (pa_cons (pe_bltn hgU hmU hbU (by exact rfl) hnU hdU) pa_nil hs4) hs3)) pa_nil hs2) hs1) (by decide) (by decide) hs1 hpl, sem_isi2 hT hU he.ok⟩

/-! ### tuple(x), list(x) -/
def dTuple : List PyData → Option PyData
  | [.list xs] => some (.tuple xs)
  | [.tuple xs] => some (.tuple xs)
  | _ => none
def rTuple (K : PySem.W.Frag) : List V → Hp → VK → Prop := fun xs H Q => ∃ p ys, xs = [.ref p] ∧ ((SqL K H p ys ∧ ∀ l, H l = none → Q (.ref l) (upd H l (.tup ys))) ∨ (SqT K H p ys ∧ Q (.ref p) H))
theorem crTuple (hK : X.K = K) : CallR X (.type "tuple") (rTuple K) := by subst hK; exact call_tuple_of
theorem vTuple : VN K (rTuple K) dTuple := fun G H vs xs z e rs q Q k => by
  unfold dTuple at q
  split at q
  · cases rs with
    | cons r t =>
      cases t
      cases q
      obtain ⟨a, ws, rfl, h1, h2⟩ := r.lst e
      refine ⟨a, ws, rfl, .inl ⟨.inl (.inl h1), fun l hl => ?_⟩⟩
      have px := PX.laid (o := .tup ws) e hl
      exact k _ _ _ px (.tup (.inl (.inl upd_same)) (h2.mono px.gg))
  · cases rs with
    | cons r t =>
      cases t
      cases q
      obtain ⟨a, ws, rfl, h1, h2⟩ := r.tup e
      rcases r with r | ⟨_, _, _, z, _⟩
      · exact ⟨a, ws, rfl, .inr ⟨h1, k _ H G (.refl e) r⟩⟩
      · cases z
  · cases q
def dListL : List PyData → Option (List PyData)
  | [.list xs] => some xs
  | [.tuple xs] => some xs
  | _ => none
def rList (K : PySem.W.Frag) : List V → Hp → VK → Prop := fun xs H Q => ∃ p ys, xs = [.ref p] ∧ (SqL K H p ys ∨ SqT K H p ys) ∧ ∀ l, H l = none → Q (.ref l) (upd H l (.lst ys))
theorem crList (hK : X.K = K) : CallR X (.type "list") (rList K) := by subst hK; exact call_list_of
theorem vListL : VL K (rList K) dListL := fun G H vs xs z e rs q Q k => by
  unfold dListL at q
  split at q
  · cases rs with
    | cons r t =>
      cases t
      cases q
      obtain ⟨a, ws, rfl, h1, h2⟩ := r.lst e
      exact ⟨a, ws, rfl, .inl (.inl (.inl h1)), fun l hl => k l ws _ G (PX.side e hl) hl (e.free hl) upd_same h2⟩
  · cases rs with
    | cons r t =>
      cases t
      cases q
      obtain ⟨a, ws, rfl, h1, h2⟩ := r.tup e
      exact ⟨a, ws, rfl, .inr h1, fun l hl => k l ws _ G (PX.side e hl) hl (e.free hl) upd_same h2⟩
  · cases q

/-! ### all, any, sum; max, min; abs, int, divmod -/
def dBools : List PyData → Option (List Bool)
  | [] => some []
  | .bool b :: r => (dBools r).map fun bs => b :: bs
  | _ => none
def dInts : List PyData → Option (List Int)
  | [] => some []
  | .int b :: r => (dInts r).map fun bs => b :: bs
  | _ => none
theorem dBools_some : ∀ {xs : List PyData} {bs : List Bool}, dBools xs = some bs → xs = bs.map .bool
  | [], _, h => by cases h; rfl
  | .bool b :: r, _, h => by
    obtain ⟨bs, h1, rfl⟩ := Option.map_eq_some_iff.mp h
    rw [dBools_some h1]; rfl
  | .none :: _, _, h => by cases h
  | .int _ :: _, _, h => by cases h
  | .str _ :: _, _, h => by cases h
  | .list _ :: _, _, h => by cases h
  | .tuple _ :: _, _, h => by cases h
  | .dict _ :: _, _, h => by cases h
theorem dInts_some : ∀ {xs : List PyData} {bs : List Int}, dInts xs = some bs → xs = bs.map .int
  | [], _, h => by cases h; rfl
  | .int b :: r, _, h => by
    obtain ⟨bs, h1, rfl⟩ := Option.map_eq_some_iff.mp h
    rw [dInts_some h1]; rfl
  | .none :: _, _, h => by cases h
  | .bool _ :: _, _, h => by cases h
  | .str _ :: _, _, h => by cases h
  | .list _ :: _, _, h => by cases h
  | .tuple _ :: _, _, h => by cases h
  | .dict _ :: _, _, h => by cases h
theorem dBools_map : ∀ bs : List Bool, dBools (bs.map .bool) = some bs
  | [] => rfl
  | b :: bs => by show (dBools (bs.map .bool)).map _ = _; rw [dBools_map bs]; rfl
theorem dInts_map : ∀ bs : List Int, dInts (bs.map .int) = some bs
  | [] => rfl
  | b :: bs => by show (dInts (bs.map .int)).map _ = _; rw [dInts_map bs]; rfl
def dAll : List PyData → Option PyData
  | [.list xs] => (dBools xs).map fun bs => .bool (bs.all id)
  | _ => none
def dAny : List PyData → Option PyData
  | [.list xs] => (dBools xs).map fun bs => .bool (bs.any id)
  | _ => none
def dSum : List PyData → Option PyData
  | [.list xs] => (dInts xs).map fun bs => .int bs.sum
  | _ => none
theorem crAll (hK : X.K = K) (hc : X.calm = true) : CallR X (.builtin "all") (rAll K) := by subst hK; exact cr_all hc
theorem crAny (hK : X.K = K) (hc : X.calm = true) : CallR X (.builtin "any") (rAny K) := by subst hK; exact cr_any hc
theorem crSum (hK : X.K = K) (hc : X.calm = true) : CallR X (.builtin "sum") (rSum K) := by subst hK; exact cr_sum hc
theorem vAll : VN K (rAll K) dAll := fun G H vs xs z e rs q Q k => by
  unfold dAll at q
  split at q
  · obtain ⟨bs, h1, rfl⟩ := Option.map_eq_some_iff.mp q
    cases rs with
    | cons r t =>
      cases t
      obtain ⟨a, ws, rfl, h2, h3⟩ := r.lst e
      have hx := dBools_some h1
      subst hx
      have hw := h3.bools
      subst hw
      exact ⟨a, bs, rfl, .inl (.inl h2), k _ H G (.refl e) (.bl _)⟩
  · cases q
theorem vAny : VN K (rAny K) dAny := fun G H vs xs z e rs q Q k => by
  unfold dAny at q
  split at q
  · obtain ⟨bs, h1, rfl⟩ := Option.map_eq_some_iff.mp q
    cases rs with
    | cons r t =>
      cases t
      obtain ⟨a, ws, rfl, h2, h3⟩ := r.lst e
      have hx := dBools_some h1
      subst hx
      have hw := h3.bools
      subst hw
      exact ⟨a, bs, rfl, .inl (.inl h2), k _ H G (.refl e) (.bl _)⟩
  · cases q
theorem vSum : VN K (rSum K) dSum := fun G H vs xs z e rs q Q k => by
  unfold dSum at q
  split at q
  · obtain ⟨bs, h1, rfl⟩ := Option.map_eq_some_iff.mp q
    cases rs with
    | cons r t =>
      cases t
      obtain ⟨a, ws, rfl, h2, h3⟩ := r.lst e
      have hx := dInts_some h1
      subst hx
      have hw := h3.ints
      subst hw
      exact ⟨a, bs, rfl, .inl (.inl h2), k _ H G (.refl e) (.int _)⟩
  · cases q
def maxI : Int → List Int → Int
  | m, [] => m
  | m, x :: r => maxI (if x > m then x else m) r
def minI : Int → List Int → Int
  | m, [] => m
  | m, x :: r => minI (if x < m then x else m) r
theorem maxI_ge : ∀ (l : List Int) (m : Int), m ≤ maxI m l ∧ ∀ x ∈ l, x ≤ maxI m l
  | [], m => ⟨Int.le_refl _, fun x h => by cases h⟩
  | y :: r, m => by
    obtain ⟨h1, h2⟩ := maxI_ge r (if y > m then y else m)
    have h3 : m ≤ (if y > m then y else m) ∧ y ≤ (if y > m then y else m) := by split <;> omega
    refine ⟨by show m ≤ maxI _ r; omega, fun x hx => ?_⟩
    show x ≤ maxI _ r
    rcases List.mem_cons.mp hx with rfl | hx
    · omega
    · exact h2 x hx
theorem maxI_mem : ∀ (l : List Int) (m : Int), maxI m l = m ∨ maxI m l ∈ l
  | [], m => .inl rfl
  | y :: r, m => by
    rcases maxI_mem r (if y > m then y else m) with h | h
    · show maxI _ r = m ∨ maxI _ r ∈ y :: r
      rw [h]
      split
      · exact .inr (by simp)
      · exact .inl rfl
    · exact .inr (List.mem_cons_of_mem _ h)
theorem minI_le : ∀ (l : List Int) (m : Int), minI m l ≤ m ∧ ∀ x ∈ l, minI m l ≤ x
  | [], m => ⟨Int.le_refl _, fun x h => by cases h⟩
  | y :: r, m => by
    obtain ⟨h1, h2⟩ := minI_le r (if y < m then y else m)
    have h3 : (if y < m then y else m) ≤ m ∧ (if y < m then y else m) ≤ y := by split <;> omega
    refine ⟨by show minI _ r ≤ m; omega, fun x hx => ?_⟩
    show minI _ r ≤ x
    rcases List.mem_cons.mp hx with rfl | hx
    · omega
    · exact h2 x hx
theorem minI_mem : ∀ (l : List Int) (m : Int), minI m l = m ∨ minI m l ∈ l
  | [], m => .inl rfl
  | y :: r, m => by
    rcases minI_mem r (if y < m then y else m) with h | h
    · show minI _ r = m ∨ minI _ r ∈ y :: r
      rw [h]
      split
      · exact .inr (by simp)
      · exact .inl rfl
    · exact .inr (List.mem_cons_of_mem _ h)
def dMax : List PyData → Option PyData
  | [.int i, .int j] => some (.int (if j > i then j else i))
  | [.list xs] => (dInts xs).bind fun ns => match ns with
    | [] => none
    | n :: r => some (.int (maxI n r))
  | _ => none
def dMin : List PyData → Option PyData
  | [.int i, .int j] => some (.int (if j < i then j else i))
  | [.list xs] => (dInts xs).bind fun ns => match ns with
    | [] => none
    | n :: r => some (.int (minI n r))
  | _ => none
theorem CallR.or {f : Value} {r r' : List V → Hp → VK → Prop} (h : CallR X f r) (h' : CallR X f r') : CallR X f (fun xs H Q => r xs H Q ∨ r' xs H Q) := fun pins s σ H xs us Q I rv q => q.elim (h pins s σ H xs us Q I rv) (h' pins s σ H xs us Q I rv)
def rMaxA (K : PySem.W.Frag) : List V → Hp → VK → Prop := fun xs H Q => (∃ i j, xs = [.int i, .int j] ∧ Q (.int (if j > i then j else i)) H) ∨ rMax K xs H Q
def rMinA (K : PySem.W.Frag) : List V → Hp → VK → Prop := fun xs H Q => (∃ i j, xs = [.int i, .int j] ∧ Q (.int (if j < i then j else i)) H) ∨ rMin K xs H Q
theorem crMax (hK : X.K = K) (hc : X.calm = true) : CallR X (.builtin "max") (rMaxA K) := by subst hK; exact CallR.or (call_max2 hc) (cr_max hc)
theorem crMin (hK : X.K = K) (hc : X.calm = true) : CallR X (.builtin "min") (rMinA K) := by subst hK; exact CallR.or (call_min2 hc) (cr_min hc)
theorem vMax : VN K (rMaxA K) dMax := fun G H vs xs z e rs q Q k => by
  unfold dMax at q
  split at q
  · cases rs with
    | cons r t => cases t with
      | cons r2 t => cases t; cases q; exact .inl ⟨_, _, by rw [r.int, r2.int], k _ H G (.refl e) (.int _)⟩
  · obtain ⟨ns, h1, h2⟩ := Option.bind_eq_some_iff.mp q
    cases ns with
    | nil => cases h2
    | cons n l =>
      cases h2
      cases rs with
      | cons r t =>
        cases t
        obtain ⟨a, ws, rfl, h2, h3⟩ := r.lst e
        have hx := dInts_some h1
        subst hx
        have hw := h3.ints
        subst hw
        refine .inr ⟨a, n :: l, rfl, .inl (.inl h2), by simp, fun m hm hge => ?_⟩
        obtain ⟨g1, g2⟩ := maxI_ge l n
        have e1 : m = maxI n l := by
          have h5 : maxI n l ≤ m := by
            rcases maxI_mem l n with z | z
            · rw [z]; exact hge n (by simp)
            · exact hge _ (List.mem_cons_of_mem _ z)
          have h6 : m ≤ maxI n l := by
            rcases List.mem_cons.mp hm with rfl | z
            · exact g1
            · exact g2 m z
          omega
        subst e1
        exact k _ H G (.refl e) (.int _)
  · cases q
theorem vMin : VN K (rMinA K) dMin := fun G H vs xs z e rs q Q k => by
  unfold dMin at q
  split at q
  · cases rs with
    | cons r t => cases t with
      | cons r2 t => cases t; cases q; exact .inl ⟨_, _, by rw [r.int, r2.int], k _ H G (.refl e) (.int _)⟩
  · obtain ⟨ns, h1, h2⟩ := Option.bind_eq_some_iff.mp q
    cases ns with
    | nil => cases h2
    | cons n l =>
      cases h2
      cases rs with
      | cons r t =>
        cases t
        obtain ⟨a, ws, rfl, h2, h3⟩ := r.lst e
        have hx := dInts_some h1
        subst hx
        have hw := h3.ints
        subst hw
        refine .inr ⟨a, n :: l, rfl, .inl (.inl h2), by simp, fun m hm hge => ?_⟩
        obtain ⟨g1, g2⟩ := minI_le l n
        have e1 : m = minI n l := by
          have h5 : m ≤ minI n l := by
            rcases minI_mem l n with z | z
            · rw [z]; exact hge n (by simp)
            · exact hge _ (List.mem_cons_of_mem _ z)
          have h6 : minI n l ≤ m := by
            rcases List.mem_cons.mp hm with rfl | z
            · exact g1
            · exact g2 m z
          omega
        subst e1
        exact k _ H G (.refl e) (.int _)
  · cases q
def dAbs : List PyData → Option PyData
  | [.int i] => some (.int (if i < 0 then -i else i))
  | _ => none
def rAbs : List V → Hp → VK → Prop := fun xs H Q => ∃ i, xs = [.int i] ∧ Q (.int (if i < 0 then -i else i)) H
theorem crAbs : CallR X (.builtin "abs") rAbs := call_abs
theorem vAbs : VN K rAbs dAbs := fun G H vs xs z e rs q Q k => by
  unfold dAbs at q
  split at q
  · cases rs with
    | cons r t => cases t; cases q; exact ⟨_, by rw [r.int], k _ H G (.refl e) (.int _)⟩
  · cases q
def dInt : List PyData → Option PyData
  | [.int i] => some (.int i)
  | [.bool b] => some (.int (if b then 1 else 0))
  | _ => none
def rInt : List V → Hp → VK → Prop := fun xs H Q => (∃ i, xs = [.int i] ∧ Q (.int i) H) ∨ ∃ k, xs = [.bl k] ∧ Q (.int (if k then 1 else 0)) H
theorem crInt : CallR X (.type "int") rInt := call_int1
theorem vInt : VN K rInt dInt := fun G H vs xs z e rs q Q k => by
  unfold dInt at q
  split at q
  · cases rs with
    | cons r t => cases t; cases q; exact .inl ⟨_, by rw [r.int], k _ H G (.refl e) (.int _)⟩
  · cases rs with
    | cons r t => cases t; cases q; exact .inr ⟨_, by rw [r.bl], k _ H G (.refl e) (.int _)⟩
  · cases q
noncomputable def dDivmod : List PyData → Option PyData
  | [.int i, .int j] => if CDiv i j then some (.tuple [.int (i / j), .int (i % j)]) else none
  | _ => none
def rDivmod : List V → Hp → VK → Prop := fun xs H Q => ∃ i j, xs = [.int i, .int j] ∧ CDiv i j ∧ ∀ p, H p = none → Q (.ref p) (upd H p (.tup [.int (i / j), .int (i % j)]))
theorem crDivmod : CallR X (.builtin "divmod") rDivmod := call_divmod
theorem vDivmod : VN K rDivmod dDivmod := fun G H vs xs z e rs q Q k => by
  unfold dDivmod at q
  split at q
  · split at q
    · rename_i hc
      cases rs with
      | cons r t => cases t with
        | cons r2 t =>
          cases t; cases q
          rename_i i j _ _
          refine ⟨_, _, by rw [r.int, r2.int], hc, fun p hp => ?_⟩
          have px := PX.laid (o := .tup [.int (i / j), .int (i % j)]) e hp
          exact k _ _ _ px (.tup (.inl (.inl upd_same)) (.cons (.int _) (.cons (.int _) .nil)))
    · cases q
  · cases q

/-! ### sorted of ints -/
def insI (x : Int) : List Int → List Int
  | [] => [x]
  | y :: r => if x ≤ y then x :: y :: r else y :: insI x r
def sortI : List Int → List Int
  | [] => []
  | x :: r => insI x (sortI r)
theorem insI_perm (x : Int) : ∀ l : List Int, (insI x l).Perm (x :: l)
  | [] => .refl _
  | y :: r => by
    unfold insI
    split
    · exact .refl _
    · exact ((insI_perm x r).cons y).trans (.swap x y r)
theorem sortI_perm : ∀ l : List Int, (sortI l).Perm l
  | [] => .refl _
  | x :: r => (insI_perm x (sortI r)).trans ((sortI_perm r).cons x)
theorem insI_sorted (x : Int) : ∀ l : List Int, l.Pairwise (· ≤ ·) → (insI x l).Pairwise (· ≤ ·)
  | [], _ => by simp [insI]
  | y :: r, h => by
    have h' := List.pairwise_cons.mp h
    unfold insI
    split
    · rename_i hxy
      refine List.pairwise_cons.mpr ⟨fun z hz => ?_, h⟩
      rcases List.mem_cons.mp hz with rfl | hz
      · exact hxy
      · exact Int.le_trans hxy (h'.1 z hz)
    · rename_i hxy
      refine List.pairwise_cons.mpr ⟨fun z hz => ?_, insI_sorted x r h'.2⟩
      have hz := (insI_perm x r).mem_iff.mp hz
      rcases List.mem_cons.mp hz with rfl | hz
      · omega
      · exact h'.1 z hz
theorem sortI_sorted : ∀ l : List Int, (sortI l).Pairwise (· ≤ ·)
  | [] => .nil
  | x :: r => insI_sorted x _ (sortI_sorted r)
theorem sorted_unique : ∀ {l m : List Int}, l.Perm m → l.Pairwise (· ≤ ·) → m.Pairwise (· ≤ ·) → l = m
  | [], m, p, _, _ => (List.nil_perm.mp p).symm
  | x :: l, [], p, _, _ => by have := p.length_eq; simp at this
  | x :: l, y :: m, p, h1, h2 => by
    have a := List.pairwise_cons.mp h1
    have b := List.pairwise_cons.mp h2
    have e : x = y := by
      have m1 : x ∈ y :: m := p.mem_iff.mp (by simp)
      have m2 : y ∈ x :: l := p.mem_iff.mpr (by simp)
      rcases List.mem_cons.mp m1 with q | q
      · exact q
      · rcases List.mem_cons.mp m2 with q' | q'
        · exact q'.symm
        · have := b.1 x q
          have := a.1 y q'
          omega
    subst e
    rw [sorted_unique (p.cons_inv) a.2 b.2]

end
end DL

set_option Elab.async false
set_option linter.all false
set_option maxRecDepth 100000
set_option maxHeartbeats 4000000
/-! DL, between parts 6 and 7: zip of two things, each a list or a tuple (t: a tuple). -/
namespace ZB
open PySem PySem.Spec PyProof.Rows L2
/-- an iterator of a list or a tuple -/
def It2 (t : Bool) (h : Heap) (it l : Addr) (k : Nat) : Prop := match t with
  | true => h.IsTupleIter it l k
  | false => h.IsListIter it l k
def Sq2 (t : Bool) (h : Heap) (l : Addr) (xs : Array Value) : Prop := match t with
  | true => h.IsTuple l xs
  | false => h.IsList l xs
theorem It2.ext {t : Bool} {h h' : Heap} {x it l : Addr} {k : Nat} (q : It2 t h it l k) (e : Heap.ExtBut x h h') (n : it ≠ x) : It2 t h' it l k := by
  cases t
  · exact Heap.IsListIter.extBut q e n
  · exact Heap.IsTupleIter.extBut q e n
theorem Sq2.ext {t : Bool} {h h' : Heap} {x l : Addr} {xs : Array Value} (q : Sq2 t h l xs) (e : Heap.ExtBut x h h') (n : l ≠ x) : Sq2 t h' l xs := by
  cases t
  · exact Heap.IsList.extBut q e n
  · exact Heap.IsTuple.extBut q e n
theorem It2.cpy {t : Bool} {h h' : Heap} {it l : Addr} {k : Nat} (q : It2 t h it l k) (e : ∀ o, h.get? it = some o → h'.get? it = some o) : It2 t h' it l k := by
  cases t
  · exact Heap.IsListIter.at q e
  · exact Heap.IsTupleIter.at q e
theorem It2.obj {t : Bool} {h : Heap} {it l : Addr} {k : Nat} (q : It2 t h it l k) : ∃ o, h.get? it = some o ∧ o.data = .fields #[.ref l, .int k 0] := by
  cases t
  · obtain ⟨o, a, b, c⟩ := q; exact ⟨o, a, c⟩
  · obtain ⟨o, a, b, c⟩ := q; exact ⟨o, a, c⟩
section
variable {prog : Program} {w : World} {A : Around} {E : Value → Shared → Prop} {s : Shared}
theorem nx_item {t : Bool} {it l : Addr} {i : Nat} {items : Array Value} {x : Value} {Q : Value → Shared → Prop} (q : It2 t s.heap it l i) (p : Sq2 t s.heap l items) (e : items[i]? = some x)
    (k : ∀ h', It2 t h' it l (i + 1) → Heap.SameBut it s.heap h' → Q x { s with heap := h' }) : wpAny (model prog w) A (Builtin.SmallTypes.nextOf (.ref it)) Q E s := by
  cases t
  · exact wpAny_nextOf_list_item q p e k
  · exact RZ.nextOf_tuple_item q p e k
theorem nx_end {t : Bool} {it l : Addr} {i : Nat} {items : Array Value} {Q : Value → Shared → Prop} (hh : A.handled = none) (q : It2 t s.heap it l i) (p : Sq2 t s.heap l items) (e : items[i]? = none)
    (k : ∀ h' e, Heap.ExtBut it s.heap h' → (∃ o, h'.get? e = some o ∧ o.cls = .type "StopIteration") → E (.ref e) { s with heap := h' }) : wpAny (model prog w) A (Builtin.SmallTypes.nextOf (.ref it)) Q E s := by
  cases t
  · exact wpAny_nextOf_list_end hh q p e k
  · exact RZ.nextOf_tuple_end hh q p e k
theorem zb_next {t u : Bool} {z TI TO i1 i2 l1 l2 : Addr} {k1 k2 : Nat} {xs ys : Array Value} {x y a b : Value} {Q : Value → Shared → Prop} (D : ZipApart z TI TO i1 i2 l1 l2)
    (q0 : IsZip s.heap z TI TO .none) (qI : IsPair s.heap TI (.ref i1) (.ref i2)) (qO : IsPair s.heap TO a b) (q1 : It2 t s.heap i1 l1 k1) (q2 : It2 u s.heap i2 l2 k2)
    (p1 : Sq2 t s.heap l1 xs) (p2 : Sq2 u s.heap l2 ys) (ex : xs[k1]? = some x) (ey : ys[k2]? = some y)
    (fin : ∀ h', IsZip h' z TI TO (rawInt s.heap.objs.size) → IsPair h' TO x y → It2 t h' i1 l1 (k1 + 1) → It2 u h' i2 l2 (k2 + 1) → IsPair h' s.heap.objs.size x y →
      h'.objs.size = s.heap.objs.size + 1 → (∀ c o, c ≠ z → c ≠ TO → c ≠ i1 → c ≠ i2 → s.heap.get? c = some o → h'.get? c = some o) → Q (.ref s.heap.objs.size) { s with heap := h' }) :
    wpAny (model prog w) A (Builtin.«zip.__next__» ⟨[.ref z], []⟩) (fun fin s' => ∃ v, fin = .done (.ret v) ∧ Q v s') E s := by
  show wpAny _ _ (field (.ref z) 2 >>= _) _ _ _; refine wpAny_bind (wpAny_field q0 rfl (x := .bool false) rfl ?_); show wpAny _ _ (field (.ref z) 3 >>= _) _ _ _
  refine wpAny_bind (wpAny_field q0 rfl (x := .ref TI) rfl ?_); refine wpAny_bind (wpAny_seqItems qI rfl ?_); show wpAny _ _ (Builtin.SmallTypes.ownedTupleIsFree (.ref z) >>= _) _ _ _
  refine wpAny_bind ?_; unfold Builtin.SmallTypes.ownedTupleIsFree; refine wpAny_bind (wpAny_field q0 rfl (x := .none) rfl (wpAny_pure ?_)); simp only [if_true]
  refine wpAny_bind (wpAny_rule ?_); refine wpAny_bind (wpAny_field q0 rfl (x := .ref TO) rfl ?_); refine wpAny_bind (wpAny_setField_rec q0 (by simp) fun g1 z1 c1 => ?_)
  replace z1 : IsZip g1 z TI TO .ellipsis := z1; refine wpAny_bind ?_; simp only [List.zipIdx_cons, List.zipIdx_nil, List.forIn_cons, List.forIn_nil]
  refine wpAny_bind (wpAny_bind (wpAny_onRaise ?_)); show wpAny _ _ (Builtin.SmallTypes.nextOf (.ref i1) >>= _) _ _ _
  refine wpAny_bind (nx_item (q1.ext c1.extBut D.i1z) (p1.ext c1.extBut D.l1z) ex fun g2 r1 c2 => wpAny_pure ?_)
  have qO2 : IsPair g2 TO a b := c2.extBut _ _ D.TOi1 (c1.extBut _ _ D.TOz qO)
  refine wpAny_bind (wpAny_seqItems qO2 rfl ?_); refine wpAny_bind (wpAny_updateSeq_pair qO2 fun g3 qO3 c3 => ?_); replace qO3 : IsPair g3 TO x b := qO3
  refine wpAny_bind (wpAny_letGo (wpAny_pure ?_)); refine wpAny_bind (wpAny_bind (wpAny_onRaise ?_)); show wpAny _ _ (Builtin.SmallTypes.nextOf (.ref i2) >>= _) _ _ _
  refine wpAny_bind (nx_item (((q2.ext c1.extBut D.i2z).ext c2.extBut D.i12.symm).ext c3.extBut D.TOi2.symm) (((p2.ext c1.extBut D.l2z).ext c2.extBut D.l2i1).ext c3.extBut D.l2TO) ey fun g4 r2 c4 => wpAny_pure ?_)
  have qO4 : IsPair g4 TO x b := c4.extBut _ _ D.TOi2 qO3
  refine wpAny_bind (wpAny_seqItems qO4 rfl ?_); refine wpAny_bind (wpAny_updateSeq_pair qO4 fun g5 qO5 c5 => ?_); replace qO5 : IsPair g5 TO x y := qO5
  refine wpAny_bind (wpAny_letGo (wpAny_pure (wpAny_pure ?_))); refine wpAny_bind (wpAny_seqItems qO5 rfl ?_); refine wpAny_bind (wpAny_newTuple ?_)
  have sz : g5.objs.size = s.heap.objs.size := by rw [c5.1, c4.1, c3.1, c2.1, c1.1]
  have z5 : IsZip g5 z TI TO .ellipsis := c5.extBut _ _ D.TOz.symm (c4.extBut _ _ D.i2z.symm (c3.extBut _ _ D.TOz.symm (c2.extBut _ _ D.i1z.symm z1)))
  have kp : ∀ c o, c ≠ z → c ≠ TO → c ≠ i1 → c ≠ i2 → s.heap.get? c = some o → g5.get? c = some o := fun c o n1 n2 n3 n4 e => c5.extBut _ _ n2 (c4.extBut _ _ n4 (c3.extBut _ _ n2 (c2.extBut _ _ n3 (c1.extBut _ _ n1 e))))
  have r1' : It2 t g5 i1 l1 (k1 + 1) := ((r1.ext c3.extBut D.TOi1.symm).ext c4.extBut D.i12).ext c5.extBut D.TOi1.symm
  have r2' : It2 u g5 i2 l2 (k2 + 1) := r2.ext c5.extBut D.TOi2.symm
  have zlt : z < g5.objs.size := Heap.lt_size z5
  show wpAny _ _ (Builtin.SmallTypes.ownedTupleHandOut (.ref z) (.ref g5.objs.size) >>= _) _ _ _; refine wpAny_bind ?_; unfold Builtin.SmallTypes.ownedTupleHandOut
  have z6 : IsZip (g5.push { cls := .type "tuple", data := .seq #[x, y] }) z TI TO .ellipsis := Heap.get?_push_of_some _ z5
  refine wpAny_bind (wpAny_setField_rec z6 (by simp) fun g7 z7 c7 => ?_); replace z7 : IsZip g7 z TI TO (rawInt g5.objs.size) := z7
  refine wpAny_setField_rec z7 (by simp) fun g8 z8 c8 => ?_; replace z8 : IsZip g8 z TI TO (rawInt g5.objs.size) := z8
  have up : ∀ c o, c ≠ z → g5.get? c = some o → g8.get? c = some o := fun c o n e => c8.extBut _ _ n (c7.extBut _ _ n (Heap.get?_push_of_some _ e))
  have T8 : IsPair g8 g5.objs.size x y := c8.extBut _ _ (Nat.ne_of_gt zlt) (c7.extBut _ _ (Nat.ne_of_gt zlt) (Heap.get?_push_size _ rfl))
  have s8 : g8.objs.size = g5.objs.size + 1 := by rw [c8.1, c7.1, Heap.size_push]
  rw [sz] at z8 T8 s8; refine wpAny_pure ⟨_, rfl, ?_⟩; show Q (.ref g5.objs.size) _; rw [sz]
  exact fin g8 z8 (up _ _ D.TOz qO5) (r1'.cpy fun o e => up _ o D.i1z e) (r2'.cpy fun o e => up _ o D.i2z e) T8 s8 fun c o n1 n2 n3 n4 e => up c o n1 (kp c o n1 n2 n3 n4 e)
theorem zb_stop {t u : Bool} {z TI TO i1 i2 l1 l2 : Addr} {k1 k2 : Nat} {xs ys : Array Value} {a b : Value} {Q : Fin → Shared → Prop} (hh : A.handled = none) (D : ZipApart z TI TO i1 i2 l1 l2)
    (q0 : IsZip s.heap z TI TO .none) (qI : IsPair s.heap TI (.ref i1) (.ref i2)) (qO : IsPair s.heap TO a b) (q1 : It2 t s.heap i1 l1 k1) (q2 : It2 u s.heap i2 l2 k2)
    (p1 : Sq2 t s.heap l1 xs) (p2 : Sq2 u s.heap l2 ys) (out : xs[k1]? = none ∨ ys[k2]? = none)
    (fin : ∀ h' e, (∀ c o, c ≠ z → c ≠ TO → c ≠ i1 → c ≠ i2 → s.heap.get? c = some o → h'.get? c = some o) → (∃ o, h'.get? e = some o ∧ o.cls = .type "StopIteration") → E (.ref e) { s with heap := h' }) :
    wpAny (model prog w) A (Builtin.«zip.__next__» ⟨[.ref z], []⟩) Q E s := by
  show wpAny _ _ (field (.ref z) 2 >>= _) _ _ _; refine wpAny_bind (wpAny_field q0 rfl (x := .bool false) rfl ?_); show wpAny _ _ (field (.ref z) 3 >>= _) _ _ _
  refine wpAny_bind (wpAny_field q0 rfl (x := .ref TI) rfl ?_); refine wpAny_bind (wpAny_seqItems qI rfl ?_); show wpAny _ _ (Builtin.SmallTypes.ownedTupleIsFree (.ref z) >>= _) _ _ _
  refine wpAny_bind ?_; unfold Builtin.SmallTypes.ownedTupleIsFree; refine wpAny_bind (wpAny_field q0 rfl (x := .none) rfl (wpAny_pure ?_)); simp only [if_true]
  refine wpAny_bind (wpAny_rule ?_); refine wpAny_bind (wpAny_field q0 rfl (x := .ref TO) rfl ?_); refine wpAny_bind (wpAny_setField_rec q0 (by simp) fun g1 z1 c1 => ?_)
  replace z1 : IsZip g1 z TI TO .ellipsis := z1; refine wpAny_bind ?_; simp only [List.zipIdx_cons, List.zipIdx_nil, List.forIn_cons, List.forIn_nil]
  refine wpAny_bind (wpAny_bind (wpAny_onRaise ?_)); show wpAny _ _ (Builtin.SmallTypes.nextOf (.ref i1) >>= _) _ _ _
  have last : ∀ (g g' : Heap) (e : Addr), IsZip g z TI TO .ellipsis → (∃ o, g.get? e = some o ∧ o.cls = .type "StopIteration") → Heap.SameBut z g g' → e ≠ z ∧ ∃ o, g'.get? e = some o ∧ o.cls = .type "StopIteration" := fun g g' e zz ⟨o, ho, hc⟩ c => by
    have n : e ≠ z := fun q => by subst q; rw [zz] at ho; cases ho; simp at hc
    exact ⟨n, o, c.extBut _ _ n ho, hc⟩
  cases ex : xs[k1]? with
  | none =>
    refine wpAny_bind (nx_end hh (q1.ext c1.extBut D.i1z) (p1.ext c1.extBut D.l1z) ex fun g2 e c2 he => ?_)
    have z2 : IsZip g2 z TI TO .ellipsis := c2 _ _ D.i1z.symm z1
    exact wpAny_setField_rec z2 (by simp) fun g3 _ c3 => fin g3 e (fun c o n1 _ n3 _ v => c3.extBut _ _ n1 (c2 _ _ n3 (c1.extBut _ _ n1 v))) (last _ _ _ z2 he c3).2
  | some x =>
    have ey : ys[k2]? = none := by
      rcases out with h | h
      · rw [ex] at h; cases h
      · exact h
    refine wpAny_bind (nx_item (q1.ext c1.extBut D.i1z) (p1.ext c1.extBut D.l1z) ex fun g2 r1 c2 => wpAny_pure ?_)
    have qO2 : IsPair g2 TO a b := c2.extBut _ _ D.TOi1 (c1.extBut _ _ D.TOz qO)
    refine wpAny_bind (wpAny_seqItems qO2 rfl ?_); refine wpAny_bind (wpAny_updateSeq_pair qO2 fun g3 qO3 c3 => ?_)
    refine wpAny_bind (wpAny_letGo (wpAny_pure ?_)); refine wpAny_bind (wpAny_bind (wpAny_onRaise ?_)); show wpAny _ _ (Builtin.SmallTypes.nextOf (.ref i2) >>= _) _ _ _
    refine wpAny_bind (nx_end hh (((q2.ext c1.extBut D.i2z).ext c2.extBut D.i12.symm).ext c3.extBut D.TOi2.symm) (((p2.ext c1.extBut D.l2z).ext c2.extBut D.l2i1).ext c3.extBut D.l2TO) ey fun g4 e c4 he => ?_)
    have z4 : IsZip g4 z TI TO .ellipsis := c4 _ _ D.i2z.symm (c3.extBut _ _ D.TOz.symm (c2.extBut _ _ D.i1z.symm z1))
    exact wpAny_setField_rec z4 (by simp) fun g5 _ c5 => fin g5 e (fun c o n1 n2 n3 n4 v => c5.extBut _ _ n1 (c4 _ _ n4 (c3.extBut _ _ n2 (c2.extBut _ _ n3 (c1.extBut _ _ n1 v))))) (last _ _ _ z4 he c5).2
theorem py_next {t u : Bool} {z TI TO i1 i2 l1 l2 : Addr} {k1 k2 : Nat} {xs ys : Array Value} {x y a b : Value} {Q : Option Value → Shared → Prop} (D : ZipApart z TI TO i1 i2 l1 l2)
    (q0 : IsZip s.heap z TI TO .none) (qI : IsPair s.heap TI (.ref i1) (.ref i2)) (qO : IsPair s.heap TO a b) (q1 : It2 t s.heap i1 l1 k1) (q2 : It2 u s.heap i2 l2 k2)
    (p1 : Sq2 t s.heap l1 xs) (p2 : Sq2 u s.heap l2 ys) (ex : xs[k1]? = some x) (ey : ys[k2]? = some y)
    (fin : ∀ h', IsZip h' z TI TO (rawInt s.heap.objs.size) → IsPair h' TO x y → It2 t h' i1 l1 (k1 + 1) → It2 u h' i2 l2 (k2 + 1) → IsPair h' s.heap.objs.size x y →
      h'.objs.size = s.heap.objs.size + 1 → (∀ c o, c ≠ z → c ≠ TO → c ≠ i1 → c ≠ i2 → s.heap.get? c = some o → h'.get? c = some o) → Q (some (.ref s.heap.objs.size)) { s with heap := h' }) :
    wpAny (model prog w) A (pyNext (.ref z)) Q E s := by
  have ty : s.TypeIs (.ref z) "zip" := ⟨_, q0, rfl⟩
  unfold pyNext
  exact wpAny_bind (wpAny_attempt (wpAny_callSpecial?_slot (name := Str.ofString "__next__") ty F.slot_zip_next (wpAny_call_entry F.slot_zip_next ty F.entry_zip_next
      (zb_next D q0 qI qO q1 q2 p1 p2 ex ey fun h' a1 a2 a3 a4 a5 a6 a7 => wpAny_pure (fin h' a1 a2 a3 a4 a5 a6 a7)) (F.args_zip_next_1 _))))
theorem py_stop {t u : Bool} {z TI TO i1 i2 l1 l2 : Addr} {k1 k2 : Nat} {xs ys : Array Value} {a b : Value} {Q : Option Value → Shared → Prop} (hh : A.handled = none) (D : ZipApart z TI TO i1 i2 l1 l2)
    (q0 : IsZip s.heap z TI TO .none) (qI : IsPair s.heap TI (.ref i1) (.ref i2)) (qO : IsPair s.heap TO a b) (q1 : It2 t s.heap i1 l1 k1) (q2 : It2 u s.heap i2 l2 k2)
    (p1 : Sq2 t s.heap l1 xs) (p2 : Sq2 u s.heap l2 ys) (out : xs[k1]? = none ∨ ys[k2]? = none)
    (fin : ∀ h', (∀ c o, c ≠ z → c ≠ TO → c ≠ i1 → c ≠ i2 → s.heap.get? c = some o → h'.get? c = some o) → Q none { s with heap := h' }) : wpAny (model prog w) A (pyNext (.ref z)) Q E s := by
  have ty : s.TypeIs (.ref z) "zip" := ⟨_, q0, rfl⟩
  unfold pyNext
  refine wpAny_bind (wpAny_attempt (wpAny_callSpecial?_slot (name := Str.ofString "__next__") ty F.slot_zip_next (wpAny_call_entry F.slot_zip_next ty F.entry_zip_next
      (zb_stop hh D q0 qI qO q1 q2 p1 p2 out fun h' e hk ⟨o, ho, hc⟩ => ?_) (F.args_zip_next_1 _))))
  exact wpAny_bind (wpAny_isInstance (T := "StopIteration") (b := true) ⟨o, ho, hc⟩ isSubtype_stop (wpAny_pure (fin _ hk)))
end
end ZB

set_option Elab.async false
set_option linter.all false
set_option maxRecDepth 100000
set_option maxHeartbeats 4000000
/-! DL, behind DLZ: the making of a zip of mixed kinds; its turns; the rule for a loop. (printed by genz.py) -/
namespace ZB
open PySem PySem.Spec PyProof.Rows L2


abbrev h1LT (h : Heap) (l1 : Addr) : Heap := h.push { cls := .type "list_iterator", data := .fields #[.ref l1, .int 0 0] }
abbrev h2LT (h : Heap) (l1 l2 : Addr) : Heap := (h1LT h l1).push { cls := .type "tuple_iterator", data := .fields #[.ref l2, .int 0 0] }
abbrev h3LT (h : Heap) (l1 l2 : Addr) : Heap := (h2LT h l1 l2).push { cls := .type "tuple", data := .seq #[.ref h.objs.size, .ref (h1LT h l1).objs.size] }
abbrev h4LT (h : Heap) (l1 l2 : Addr) : Heap := (h3LT h l1 l2).push { cls := .type "tuple", data := .seq #[.none, .none] }
abbrev h5LT (h : Heap) (l1 l2 : Addr) : Heap := (h4LT h l1 l2).push { cls := .type "zip", data := .fields #[.none, .bool false, .bool false, .ref (h2LT h l1 l2).objs.size, .ref (h3LT h l1 l2).objs.size] }
theorem meetsLT (l1 l2 : Addr) (xs ys : Array Value) :
    Meets (Builtin.«zip.__new__» ⟨[.type "zip", .ref l1, .ref l2], []⟩) (fun _ R s => s.heap.IsList l1 xs ∧ s.heap.IsTuple l2 ys ∧
      R (.ok (.ret (.ref (h4LT s.heap l1 l2).objs.size))) { s with heap := h5LT s.heap l1 l2 }) :=
  .of_wp fun prog w A R s h => by
    obtain ⟨hp, g, d, tk, os⟩ := s; obtain ⟨hl1, hl2, h⟩ := h
    have hsub := sub_zip
    have hL1 : Heap.IsList (Shared.heap ⟨hp, g, d, tk, os⟩) l1 xs := hl1
    have hL2 : Heap.IsTuple (Shared.heap ⟨hp.push { cls := .type "list_iterator", data := .fields #[.ref l1, .int 0 0] }, g, d, tk, os⟩) l2 ys := Heap.IsTuple.push hl2 _
    wp_walk using wpAny_pyIter_list hL1, wpAny_pyIter_tuple hL2
    exact ⟨_, rfl, h⟩
theorem callLT {prog : Program} {w : World} {A : Around} {E : Value → Shared → Prop} {s : Shared} {l1 l2 : Addr} {xs ys : Array Value} {Q : Value → Shared → Prop} (hl1 : s.heap.IsList l1 xs) (hl2 : s.heap.IsTuple l2 ys)
    (h : ∀ h', IsZip h' (s.heap.objs.size + 4) (s.heap.objs.size + 2) (s.heap.objs.size + 3) .none → IsPair h' (s.heap.objs.size + 2) (.ref s.heap.objs.size) (.ref (s.heap.objs.size + 1)) →
      IsPair h' (s.heap.objs.size + 3) .none .none → h'.IsListIter s.heap.objs.size l1 0 → h'.IsTupleIter (s.heap.objs.size + 1) l2 0 → h'.objs.size = s.heap.objs.size + 5 →
      (∀ c o, s.heap.get? c = some o → h'.get? c = some o) → Q (.ref (s.heap.objs.size + 4)) { s with heap := h' }) :
    wpAny (model prog w) A (call (.type "zip") [.ref l1, .ref l2]) Q E s := by
  refine callType_new F.called_zip (by decide) (F.typeCall_zip_2 _ _) (F.newCall_zip_2 _ _) (fun obj => F.args_object_init_3 obj _ _) F.entry_zip_new
    (meetsLT l1 l2 xs ys) ⟨hl1, hl2, ?_⟩
  have z1 : (h1LT s.heap l1).objs.size = s.heap.objs.size + 1 := Heap.size_push ..
  have z2 : (h2LT s.heap l1 l2).objs.size = s.heap.objs.size + 2 := by rw [Heap.size_push, z1]
  have z3 : (h3LT s.heap l1 l2).objs.size = s.heap.objs.size + 3 := by rw [Heap.size_push, z2]
  have z4 : (h4LT s.heap l1 l2).objs.size = s.heap.objs.size + 4 := by rw [Heap.size_push, z3]
  have z5 : (h5LT s.heap l1 l2).objs.size = s.heap.objs.size + 5 := by rw [Heap.size_push, z4]
  have g5 : (h5LT s.heap l1 l2).get? (h4LT s.heap l1 l2).objs.size = some _ := Heap.get?_push_size _ rfl
  have g4 : (h5LT s.heap l1 l2).get? (h3LT s.heap l1 l2).objs.size = some _ := Heap.get?_push_of_some _ (Heap.get?_push_size _ rfl)
  have g3 : (h5LT s.heap l1 l2).get? (h2LT s.heap l1 l2).objs.size = some _ := Heap.get?_push_of_some _ (Heap.get?_push_of_some _ (Heap.get?_push_size _ rfl))
  have g2 : (h5LT s.heap l1 l2).get? (h1LT s.heap l1).objs.size = some _ := Heap.get?_push_of_some _ (Heap.get?_push_of_some _ (Heap.get?_push_of_some _ (Heap.get?_push_size _ rfl)))
  have g1 : (h5LT s.heap l1 l2).get? s.heap.objs.size = some _ := Heap.get?_push_of_some _ (Heap.get?_push_of_some _ (Heap.get?_push_of_some _ (Heap.get?_push_of_some _ (Heap.get?_push_size _ rfl))))
  show _ ∧ _
  rw [z2, z3, z4] at g5
  rw [z1, z2] at g3
  rw [z3] at g4
  rw [z1] at g2
  rw [z4]
  exact ⟨⟨_, g5, rfl⟩, h _ g5 g3 g4 ⟨_, g1, rfl, rfl⟩ ⟨_, g2, rfl, rfl⟩ z5 fun c o x =>
    Heap.get?_push_of_some _ (Heap.get?_push_of_some _ (Heap.get?_push_of_some _ (Heap.get?_push_of_some _ (Heap.get?_push_of_some _ x))))⟩


abbrev h1TL (h : Heap) (l1 : Addr) : Heap := h.push { cls := .type "tuple_iterator", data := .fields #[.ref l1, .int 0 0] }
abbrev h2TL (h : Heap) (l1 l2 : Addr) : Heap := (h1TL h l1).push { cls := .type "list_iterator", data := .fields #[.ref l2, .int 0 0] }
abbrev h3TL (h : Heap) (l1 l2 : Addr) : Heap := (h2TL h l1 l2).push { cls := .type "tuple", data := .seq #[.ref h.objs.size, .ref (h1TL h l1).objs.size] }
abbrev h4TL (h : Heap) (l1 l2 : Addr) : Heap := (h3TL h l1 l2).push { cls := .type "tuple", data := .seq #[.none, .none] }
abbrev h5TL (h : Heap) (l1 l2 : Addr) : Heap := (h4TL h l1 l2).push { cls := .type "zip", data := .fields #[.none, .bool false, .bool false, .ref (h2TL h l1 l2).objs.size, .ref (h3TL h l1 l2).objs.size] }
theorem meetsTL (l1 l2 : Addr) (xs ys : Array Value) :
    Meets (Builtin.«zip.__new__» ⟨[.type "zip", .ref l1, .ref l2], []⟩) (fun _ R s => s.heap.IsTuple l1 xs ∧ s.heap.IsList l2 ys ∧
      R (.ok (.ret (.ref (h4TL s.heap l1 l2).objs.size))) { s with heap := h5TL s.heap l1 l2 }) :=
  .of_wp fun prog w A R s h => by
    obtain ⟨hp, g, d, tk, os⟩ := s; obtain ⟨hl1, hl2, h⟩ := h
    have hsub := sub_zip
    have hL1 : Heap.IsTuple (Shared.heap ⟨hp, g, d, tk, os⟩) l1 xs := hl1
    have hL2 : Heap.IsList (Shared.heap ⟨hp.push { cls := .type "tuple_iterator", data := .fields #[.ref l1, .int 0 0] }, g, d, tk, os⟩) l2 ys := Heap.IsList.push hl2 _
    wp_walk using wpAny_pyIter_tuple hL1, wpAny_pyIter_list hL2
    exact ⟨_, rfl, h⟩
theorem callTL {prog : Program} {w : World} {A : Around} {E : Value → Shared → Prop} {s : Shared} {l1 l2 : Addr} {xs ys : Array Value} {Q : Value → Shared → Prop} (hl1 : s.heap.IsTuple l1 xs) (hl2 : s.heap.IsList l2 ys)
    (h : ∀ h', IsZip h' (s.heap.objs.size + 4) (s.heap.objs.size + 2) (s.heap.objs.size + 3) .none → IsPair h' (s.heap.objs.size + 2) (.ref s.heap.objs.size) (.ref (s.heap.objs.size + 1)) →
      IsPair h' (s.heap.objs.size + 3) .none .none → h'.IsTupleIter s.heap.objs.size l1 0 → h'.IsListIter (s.heap.objs.size + 1) l2 0 → h'.objs.size = s.heap.objs.size + 5 →
      (∀ c o, s.heap.get? c = some o → h'.get? c = some o) → Q (.ref (s.heap.objs.size + 4)) { s with heap := h' }) :
    wpAny (model prog w) A (call (.type "zip") [.ref l1, .ref l2]) Q E s := by
  refine callType_new F.called_zip (by decide) (F.typeCall_zip_2 _ _) (F.newCall_zip_2 _ _) (fun obj => F.args_object_init_3 obj _ _) F.entry_zip_new
    (meetsTL l1 l2 xs ys) ⟨hl1, hl2, ?_⟩
  have z1 : (h1TL s.heap l1).objs.size = s.heap.objs.size + 1 := Heap.size_push ..
  have z2 : (h2TL s.heap l1 l2).objs.size = s.heap.objs.size + 2 := by rw [Heap.size_push, z1]
  have z3 : (h3TL s.heap l1 l2).objs.size = s.heap.objs.size + 3 := by rw [Heap.size_push, z2]
  have z4 : (h4TL s.heap l1 l2).objs.size = s.heap.objs.size + 4 := by rw [Heap.size_push, z3]
  have z5 : (h5TL s.heap l1 l2).objs.size = s.heap.objs.size + 5 := by rw [Heap.size_push, z4]
  have g5 : (h5TL s.heap l1 l2).get? (h4TL s.heap l1 l2).objs.size = some _ := Heap.get?_push_size _ rfl
  have g4 : (h5TL s.heap l1 l2).get? (h3TL s.heap l1 l2).objs.size = some _ := Heap.get?_push_of_some _ (Heap.get?_push_size _ rfl)
  have g3 : (h5TL s.heap l1 l2).get? (h2TL s.heap l1 l2).objs.size = some _ := Heap.get?_push_of_some _ (Heap.get?_push_of_some _ (Heap.get?_push_size _ rfl))
  have g2 : (h5TL s.heap l1 l2).get? (h1TL s.heap l1).objs.size = some _ := Heap.get?_push_of_some _ (Heap.get?_push_of_some _ (Heap.get?_push_of_some _ (Heap.get?_push_size _ rfl)))
  have g1 : (h5TL s.heap l1 l2).get? s.heap.objs.size = some _ := Heap.get?_push_of_some _ (Heap.get?_push_of_some _ (Heap.get?_push_of_some _ (Heap.get?_push_of_some _ (Heap.get?_push_size _ rfl))))
  show _ ∧ _
  rw [z2, z3, z4] at g5
  rw [z1, z2] at g3
  rw [z3] at g4
  rw [z1] at g2
  rw [z4]
  exact ⟨⟨_, g5, rfl⟩, h _ g5 g3 g4 ⟨_, g1, rfl, rfl⟩ ⟨_, g2, rfl, rfl⟩ z5 fun c o x =>
    Heap.get?_push_of_some _ (Heap.get?_push_of_some _ (Heap.get?_push_of_some _ (Heap.get?_push_of_some _ (Heap.get?_push_of_some _ x))))⟩


/-- a list (t: a tuple) of the abstract heap -/
def SqX (K : PySem.W.Frag) (H : Hp) (t : Bool) (a : Addr) (xs : List V) : Prop := match t with
  | true => SqT K H a xs
  | false => SqL K H a xs
theorem sqx {X : L2.Cx} {pins : List (Addr × Obj)} {σ : L2.St} {H : Hp} {s : Shared} {t : Bool} {a : Addr} {xs : List V} (I : L2.Inv X pins σ H s) (h : SqX X.K H t a xs) : ∃ its, L2.Vals xs its ∧ Sq2 t s.heap a its.toArray ∧ a < s.heap.objs.size := by
  cases t
  · obtain ⟨its, rv, p, _⟩ := I.list h
    exact ⟨its, rv, p.isList, p.lt⟩
  · obtain ⟨its, rv, p, _⟩ := I.tuple h
    obtain ⟨o, ho, _⟩ := id p
    exact ⟨its, rv, p, Heap.lt_size ho⟩
theorem sqx_inj {X : L2.Cx} {pins : List (Addr × Obj)} {σ : L2.St} {H : Hp} {s : Shared} {t : Bool} {a : Addr} {xs ys : List V} (I : L2.Inv X pins σ H s) (h : SqX X.K H t a xs) (h' : SqX X.K H t a ys) : xs = ys := by
  cases t
  · exact I.list_inj h h'
  · exact I.tuple_inj h h'
def ItzX (K : PySem.W.Frag) (t u : Bool) (a b : Addr) : It :=
  ⟨fun i H => ∃ (xs ys : List V) (x y : V), SqX K H t a xs ∧ SqX K H u b ys ∧ xs[i]? = some x ∧ ys[i]? = some y,
    fun i H v H' => ∃ T x y, v = .ref T ∧ H T = none ∧ H' = upd H T (.tup [x, y]) ∧ (∀ xs, SqX K H t a xs → xs[i]? = some x) ∧ ∀ ys, SqX K H u b ys → ys[i]? = some y,
    fun i H => ∃ xs ys : List V, SqX K H t a xs ∧ SqX K H u b ys ∧ (xs.length ≤ i ∨ ys.length ≤ i)⟩
theorem turn_zipX {P : Program} {w : World} {K : PySem.W.Frag} {t u : Bool} {elts : List Expr} {kk : Nat} {tpos : Pos} {a b z TI TO i1 i2 : Addr} (D : ZipApart z TI TO i1 i2 a b) :
    Turn P w K (.Tuple elts kk tpos) (ItzX K t u a b) [z, TI, TO, i1, i2] z (fun i h => IsZip h z TI TO .none ∧ IsPair h TI (.ref i1) (.ref i2) ∧ (∃ x y, IsPair h TO x y) ∧ It2 t h i1 a i ∧ It2 u h i2 b i) where
  mem := by simp
  obj := fun i h st c hc => by
    obtain ⟨hz, hTI, ⟨x, y, hTO⟩, q1, q2⟩ := st
    obtain ⟨o1, e1, d1⟩ := q1.obj
    obtain ⟨o2, e2, d2⟩ := q2.obj
    have e' : c = z ∨ c = TI ∨ c = TO ∨ c = i1 ∨ c = i2 := by simpa using hc
    rcases e' with q | q | q | q | q
    · rw [q]; exact ⟨_, hz, fun v q => nomatch q⟩
    · rw [q]; exact ⟨_, hTI, fun v q => nomatch q⟩
    · rw [q]; exact ⟨_, hTO, fun v q => nomatch q⟩
    · rw [q]; exact ⟨o1, e1, fun v q => by rw [d1] at q; cases q⟩
    · rw [q]; exact ⟨o2, e2, fun v q => by rw [d2] at q; cases q⟩
  keep := fun i h h' st k => by
    obtain ⟨hz, hTI, ⟨x, y, hTO⟩, h1, h2⟩ := st
    exact ⟨k z (by simp) _ hz, k TI (by simp) _ hTI, ⟨x, y, k TO (by simp) _ hTO⟩, h1.cpy fun o q => k i1 (by simp) o q, h2.cpy fun o q => k i2 (by simp) o q⟩
  item := by
    intro X hP hw hK hc i pins s σ H E I hf st hg
    subst hP hw hK
    obtain ⟨hz, hTI, ⟨x0, y0, hTO⟩, h1, h2⟩ := st
    obtain ⟨xs, ys, x, y, hqx, hqy, hx, hy⟩ := hg
    obtain ⟨its, rv, p, _⟩ := sqx I hqx
    obtain ⟨its2, rv2, p2, _⟩ := sqx I hqy
    obtain ⟨v, hu, ru⟩ := rv.get hx
    obtain ⟨v2, hu2, ru2⟩ := rv2.get hy
    have hzl : z < s.heap.objs.size := Heap.lt_size hz
    refine py_next D hz hTI hTO h1 h2 p p2 (x := v) (y := v2) (by simpa using hu) (by simpa using hu2) fun h' z' TO' h1' h2' hT hsz hk => ?_
    refine ⟨_, rfl, wpAny_letOwnedTupleGo_zip (s := { s with heap := h' }) z' fun h'' z'' sb => ?_⟩
    have hT2 : h''.get? s.heap.objs.size = some { cls := .type "tuple", data := .seq #[v, v2] } := (sb.2 _ (Nat.ne_of_gt hzl)).trans hT
    have new : ObjOk X.prog X.w (upd H s.heap.objs.size (.tup [x, y])) h'' s.heap.objs.size (.tup [x, y]) :=
      ⟨by show 2 ≤ sizeLine; decide, [v, v2], .cons ru (.cons ru2 .nil), ⟨_, hT2, rfl, _, rfl⟩⟩
    have I1 : Inv X pins σ (upd H s.heap.objs.size (.tup [x, y])) { s with heap := h'' } :=
      I.turnedNew (t' := s.toks) (ch := [z, TI, TO, i1, i2]) (fun c o hb q => (sb.2 c (fun q' => hb (by simp [q']))).trans (hk c o (fun q' => hb (by simp [q'])) (fun q' => hb (by simp [q'])) (fun q' => hb (by simp [q'])) (fun q' => hb (by simp [q'])) q)) hf (Nat.le_refl _) new
    refine ⟨.ref s.heap.objs.size, _, I1, rfl, ⟨_, x, y, rfl, I.hok.fresh (Nat.le_refl _), rfl, fun l hl => by rw [sqx_inj I hl hqx]; exact hx, fun l hl => by rw [sqx_inj I hl hqy]; exact hy⟩, ⟨z'', ?_, ⟨v, v2, ?_⟩, ?_, ?_⟩, fun c hcm => ?_⟩
    · exact (sb.2 _ D.TIz).trans (hk _ _ D.TIz D.TITO D.TIi1 D.TIi2 hTI)
    · exact (sb.2 _ D.TOz).trans TO'
    · exact h1'.cpy fun o q => (sb.2 _ D.i1z).trans q
    · exact h2'.cpy fun o q => (sb.2 _ D.i2z).trans q
    · have hlt : c < s.heap.objs.size := by
        have e' : c = z ∨ c = TI ∨ c = TO ∨ c = i1 ∨ c = i2 := by simpa using hcm
        rcases e' with q | q | q | q | q
        · rw [q]; exact hzl
        · rw [q]; exact Heap.lt_size hTI
        · rw [q]; exact Heap.lt_size hTO
        · rw [q]; obtain ⟨_, e1, _⟩ := h1.obj; exact Heap.lt_size e1
        · rw [q]; obtain ⟨_, e2, _⟩ := h2.obj; exact Heap.lt_size e2
      rw [upd_ne (Nat.ne_of_lt hlt)]
      exact (hf c hcm).1
  done := by
    intro X hP hw hK hc i pins s σ H E I hf st hg
    subst hP hw hK
    obtain ⟨hz, hTI, ⟨x0, y0, hTO⟩, h1, h2⟩ := st
    obtain ⟨xs, ys, hqx, hqy, hend⟩ := hg
    obtain ⟨its, rv, p, _⟩ := sqx I hqx
    obtain ⟨its2, rv2, p2, _⟩ := sqx I hqy
    have l1 := rv.length
    have l2 := rv2.length
    have he : its.toArray[i]? = none ∨ its2.toArray[i]? = none := by
      rcases hend with q | q
      · exact .inl (by simp; omega)
      · exact .inr (by simp; omega)
    exact py_stop (I.ok.hd hc) D hz hTI hTO h1 h2 p p2 he fun h' hk => ⟨rfl, I.turnedL (t' := s.toks) (ch := [z, TI, TO, i1, i2]) (fun c o hb q =>
      hk c o (fun q' => hb (by simp [q'])) (fun q' => hb (by simp [q'])) (fun q' => hb (by simp [q'])) (fun q' => hb (by simp [q'])) q) hf⟩
  self := fun A i s Q E st h => wpAny_pyIter_zip st.1 h
theorem callX {prog : Program} {w : World} {A : Around} {E : Value → Shared → Prop} {s : Shared} {t u : Bool} {l1 l2 : Addr} {xs ys : Array Value} {Q : Value → Shared → Prop} (hl1 : Sq2 t s.heap l1 xs) (hl2 : Sq2 u s.heap l2 ys)
    (h : ∀ h', IsZip h' (s.heap.objs.size + 4) (s.heap.objs.size + 2) (s.heap.objs.size + 3) .none → IsPair h' (s.heap.objs.size + 2) (.ref s.heap.objs.size) (.ref (s.heap.objs.size + 1)) →
      IsPair h' (s.heap.objs.size + 3) .none .none → It2 t h' s.heap.objs.size l1 0 → It2 u h' (s.heap.objs.size + 1) l2 0 → h'.objs.size = s.heap.objs.size + 5 →
      (∀ c o, s.heap.get? c = some o → h'.get? c = some o) → Q (.ref (s.heap.objs.size + 4)) { s with heap := h' }) :
    wpAny (model prog w) A (call (.type "zip") [.ref l1, .ref l2]) Q E s := by
  cases t
  · cases u
    · exact call_zip_2 hl1 hl2 h
    · exact callLT hl1 hl2 h
  · cases u
    · exact callTL hl1 hl2 h
    · exact RZ.call_zipT hl1 hl2 h
def iZipX (K : PySem.W.Frag) (ta : TA) : TI := fun σ H R => ta σ H fun vs H1 => ∃ a b t u xs ys, vs = [.ref a, .ref b] ∧ SqX K H1 t a xs ∧ SqX K H1 u b ys ∧ R (ItzX K t u a b) H1
theorem pi_zipX {X : Cx} {e e2 : Expr} {ta : TA} {p pos tpos : Pos} {elts : List Expr} {kk : Nat} (hg : Gl X "zip") (hm : X.mg "zip" = none) (ha : PA X [e, e2] ta)
    (hs : starEach [e, e2] X.env = (false, eval e X.env) :: starEach [e2] X.env := by rfl) (hpl : (backTo pos (starEach [e2] X.env)).any (·.1) = false := by rfl) :
    PI X (.Tuple elts kk tpos) (.Call (.Name "zip" p) [e, e2] [] pos) (iZipX X.K ta) := by
  refine ⟨fun pins s σ H R I h => ?_⟩
  refine Call_ (ld_blt I hg hm PyProof.Rows.boot_zip (PyProof.Rows.callWith_type1 (thn (ha.run pos pins s σ H _ I h) fun us s1 ⟨vs, H1, I1, r1, q1⟩ => ?_) hs hpl))
  obtain ⟨a, b, t, u, xs, ys, ex, hqx, hqy, q⟩ := q1
  subst ex
  cases r1 with
  | cons r rr =>
    cases rr with
    | cons r' rr =>
      cases rr
      cases r
      cases r'
      have fresh5 : ∀ c, c ∈ [s1.heap.objs.size + 4, s1.heap.objs.size + 2, s1.heap.objs.size + 3, s1.heap.objs.size, s1.heap.objs.size + 1] → FpOk X pins H1 c := fun c hcm => by
        have e' : c = s1.heap.objs.size + 4 ∨ c = s1.heap.objs.size + 2 ∨ c = s1.heap.objs.size + 3 ∨ c = s1.heap.objs.size ∨ c = s1.heap.objs.size + 1 := by simpa using hcm
        have hle : s1.heap.objs.size ≤ c := by
          rcases e' with z | z | z | z | z
          · rw [z]; exact Nat.le_add_right _ _
          · rw [z]; exact Nat.le_add_right _ _
          · rw [z]; exact Nat.le_add_right _ _
          · rw [z]; exact Nat.le_refl _
          · rw [z]; exact Nat.le_add_right _ _
        exact I1.fpOk hle (I1.hok.fresh hle)
      obtain ⟨its, rv, p1, lt1⟩ := sqx I1 hqx
      obtain ⟨its2, rv2, p2, lt2⟩ := sqx I1 hqy
      refine callX p1 p2 fun h' hz hTI hTO h1 h2 hsz hk => wpAny_pyIter_zip hz ?_
      have I2 : Inv X pins σ H1 { s1 with heap := h' } := I1.kept (t' := s1.toks) hk
      exact ⟨s1.heap.objs.size + 4, [s1.heap.objs.size + 4, s1.heap.objs.size + 2, s1.heap.objs.size + 3, s1.heap.objs.size, s1.heap.objs.size + 1], _, _, H1, rfl, I2, turn_zipX (PySem.W.ktu_apart s1.heap.objs.size a b lt1 lt2), ⟨hz, hTI, ⟨_, _, hTO⟩, h1, h2⟩, fresh5, q⟩
end ZB

set_option Elab.async false
set_option linter.all false
set_option maxRecDepth 100000
set_option maxHeartbeats 4000000
/-! DL, behind DLZ2: sorted of a list or a tuple of ints, any number of them. -/
namespace ZB
open PySem PySem.Spec PyProof.Rows L2
section
variable {prog : Program} {w : World} {A : Around} {E : Value → Shared → Prop} {s : Shared}
theorem collect_x {t : Bool} {l : Addr} {vs : List Value} {Q : List Value → Shared → Prop} (hl : Sq2 t s.heap l vs.toArray)
    (h : Q vs { s with heap := (s.heap.push (seqObj "list" #[] 0)).update s.heap.objs.size (Obj.mapSeq (· ++ vs.toArray)) }) (hsz : vs.length ≤ sizeLine) :
    wpAny (model prog w) A (collect (.ref l)) Q E s := by
  cases t
  · exact collect_list hl h hsz
  · obtain ⟨o, ho, hc, n, hd⟩ := id (show s.heap.IsTuple l vs.toArray from hl)
    unfold collect
    refine wpAny_bind (wpAny_runValue (codeAny_builtin entry_proto_collect' ?_))
    show wpAny _ _ (do again (.builtin "list.__iadd__" ⟨[← newList [], .ref l], []⟩)) _ _ s
    refine wpAny_bind (wpAny_newList (wpAny_pure ⟨Code.quiet_builtin _ (by decide +kernel), codeAny_builtin entry_list_iadd' ?_⟩))
    show wpAny _ _ (Builtin.List.listExtendWith (.ref s.heap.objs.size) (.ref l) (.ref s.heap.objs.size)) _ _ { s with heap := s.heap.push (seqObj "list" #[] 0) }
    unfold Builtin.List.listExtendWith
    have ho' : (s.heap.push (seqObj "list" #[] 0)).get? l = some o := Heap.get?_push_of_some _ ho
    refine wpAny_bind (wpAny_typeOf (T := "tuple") ⟨o, ho', hc⟩ ?_)
    have ht : (Value.type "tuple" == Value.type "tuple") = true := by rfl
    rw [if_pos (by rw [ht]; simp)]
    refine wpAny_bind (listItems_at ho' hd ?_)
    refine wpAny_bind (listItems_at (xs := #[]) (n := 0) (Heap.get?_push_size _ rfl) rfl ?_)
    rw [if_neg (by simp)]
    refine wpAny_bind (listUpdate_at (xs := #[]) (n := 0) (Heap.get?_push_size _ rfl) rfl ?_ (Nat.zero_le _) (by show (#[] ++ vs.toArray).size ≤ sizeLine + 1; simp only [Array.size_append, List.size_toArray, List.length_nil]; omega))
    refine wpAny_pure ?_
    show wpAny (model prog w) A (do
        let o ← load s.heap.objs.size
        match o.data with
        | .seq xs _ => pure xs.toList
        | _ => unsupported "internal:collect") Q E { s with heap := (s.heap.push (seqObj "list" #[] 0)).update s.heap.objs.size (Obj.mapSeq (· ++ vs.toArray)) }
    refine wpAny_bind (wpAny_load (get?_update_seq (Heap.get?_push_size _ rfl) _) ?_)
    show wpAny _ _ (pure ((#[] : Array Value) ++ vs.toArray).toList) Q E _
    rw [show ((#[] : Array Value) ++ vs.toArray).toList = vs by simp]
    exact wpAny_pure h
open SrtO in
theorem sorted_x {t : Bool} {l : Addr} {vs : List Value} {ltv : Value → Value → Bool} {Q : Value → Shared → Prop} (O : Swo ltv) (hl : Sq2 t s.heap l vs.toArray) (hz : vs.length ≤ sizeLine)
    (hS : 2 ≤ vs.length → ∀ (h₁ : Heap) (a : Addr), h₁.get? a = some (seqObj "list" vs.toArray 0) → (∀ b o, s.heap.get? b = some o → b ≠ a ∧ h₁.get? b = some o) → SortableO prog w A.in1.in1 { s with heap := h₁ } a vs ltv)
    (h : ∀ out : List Value, Srtd ltv out → Stb ltv out vs → Q (.ref (s.heap.objs.size + 1)) { s with heap := sortedAll s.heap vs out.toArray }) :
    wpAny (model prog w) A (call (.builtin "sorted") [.ref l]) Q E s := by
  refine Calls.call_function_entry kind_sorted plain_sorted entry_sorted (args_sorted1 _) ?_
  unfold Builtin.«sorted»
  refine wpAny_bind (m := checkCount "sorted" 1 1 _) (wpAny_pure ?_)
  refine wpAny_bind (collect_x hl ?_ hz)
  refine wpAny_bind (wpAny_newList ?_ hz)
  have hsz : ((s.heap.push (seqObj "list" #[] 0)).update s.heap.objs.size (Obj.mapSeq (· ++ vs.toArray))).objs.size = s.heap.objs.size + 1 := by
    rw [Heap.size_update, size_push']
  have hoL : (((s.heap.push (seqObj "list" #[] 0)).update s.heap.objs.size (Obj.mapSeq (· ++ vs.toArray))).push (seqObj "list" vs.toArray 0)).get? (s.heap.objs.size + 1) = some (seqObj "list" vs.toArray 0) := by
    rw [← hsz]; exact Heap.get?_push_size _ rfl
  have keep : ∀ b o, s.heap.get? b = some o → b ≠ s.heap.objs.size + 1 ∧ (((s.heap.push (seqObj "list" #[] 0)).update s.heap.objs.size (Obj.mapSeq (· ++ vs.toArray))).push (seqObj "list" vs.toArray 0)).get? b = some o := fun b o q => by
    have hlt : b < s.heap.objs.size := Heap.lt_size q
    refine ⟨Nat.ne_of_lt (Nat.lt_succ_of_lt hlt), Heap.get?_push_of_some _ ?_⟩
    rw [Heap.get?_update_ne _ _ _ _ (Nat.ne_of_lt hlt)]
    exact Heap.get?_push_of_some _ q
  show wpAny _ _ _ _ _ { s with heap := ((s.heap.push (seqObj "list" #[] 0)).update s.heap.objs.size (Obj.mapSeq (· ++ vs.toArray))).push (seqObj "list" vs.toArray 0) }
  rw [hsz]
  refine wpAny_bind (wpAny_holding (wpAny_call_entry slot_list_sort ⟨_, hoL, rfl⟩ entry_list_sort (list_sort_ord O hoL hz (fun h2 => hS h2 _ _ hoL keep) fun out hs hb => ⟨_, rfl, ?_⟩) (args_list_sort _)))
  exact wpAny_pure ⟨_, rfl, h out hs hb⟩
end
/-- sorted(xs), ints, of a list or a tuple -/
def rSortX (K : PySem.W.Frag) : List V → Hp → VK → Prop := fun vs H Q => ∃ (a : Addr) (t : Bool) (ns : List Int), vs = [V.ref a] ∧ SqX K H t a (ns.map V.int) ∧
  ∀ (ns' : List Int) (p : Addr), ns'.Perm ns → ns'.Pairwise (· ≤ ·) → H p = none → Q (.ref p) (upd H p (.lst (ns'.map V.int)))
theorem cr_sortX {X : L2.Cx} : CallR X (.builtin "sorted") (rSortX X.K) := by
  intro pins s σ H vs us Q I r h
  obtain ⟨a, t, ns, rfl, hs, q⟩ := h
  obtain ⟨its, rv, hl, _⟩ := sqx I hs
  have hz : (ns.map V.int).length ≤ sizeLine := by
    cases t
    · obtain ⟨_, _, _, z⟩ := I.list hs; exact z
    · obtain ⟨_, _, _, z⟩ := I.tuple hs; exact z
  rw [Vals.ref1 r]
  have hi := rv.ints
  refine sorted_x SrtO.swo_int hl (by rw [← rv.length]; exact hz) (fun h2 h₁ a' _ _ => SrtO.ints_sortable hi h2) fun out h1 h2 => ?_
  obtain ⟨k1, k2, k3⟩ := SrtO.ints_out hi h1 h2
  obtain ⟨ep, he'⟩ := PyProof.Rows.sortedAll_at s.heap its out.toArray
  have hlen : ((out.map SrtO.iv).map V.int).length ≤ sizeLine := by
    rw [List.length_map, k2.length_eq]
    rw [List.length_map] at hz
    exact hz
  exact ⟨.ref _, upd H (s.heap.objs.size + 1) (.lst ((out.map SrtO.iv).map V.int)), I.laid (t' := s.toks) (fun _ _ => PyProof.Rows.sortedAll_old) (Nat.le_succ _) ⟨hlen, out, ep, vals_of_ints k1, he'⟩, rfl, q _ _ k2 k3 (I.hok.fresh (Nat.le_succ _))⟩
end ZB

set_option Elab.async false
set_option linter.all false
set_option maxRecDepth 100000
set_option maxHeartbeats 4000000
/-! DL, part 7: what is walked: lists, tuples, ranges, enumerate, zip. -/
namespace DL
open PySem PySem.Spec PyProof.Rows L2

/-- a list or a tuple -/
def SqA (K : PySem.W.Frag) (H : Hp) (b : Bool) (a : Addr) (xs : List V) : Prop := if b then SqT K H a xs else SqL K H a xs
def Its2 (K : PySem.W.Frag) (b : Bool) (a : Addr) (c : Int) : It :=
  ⟨fun i H => ∃ (xs : List V) (x : V), SqA K H b a xs ∧ xs[i]? = some x, fun i H v H' => ∃ T x, v = .ref T ∧ H T = none ∧ H' = upd H T (.tup [.int (c + (i : Nat)), x]) ∧ ∀ xs, SqA K H b a xs → xs[i]? = some x, fun i H => ∃ xs : List V, SqA K H b a xs ∧ xs.length = i⟩
def IterAt (h : Heap) (b : Bool) (it a : Addr) (i : Nat) : Prop := if b then h.IsTupleIter it a i else h.IsListIter it a i
theorem IterAt.get {h : Heap} {b : Bool} {it a : Addr} {i : Nat} (st : IterAt h b it a i) : ∃ o, h.get? it = some o ∧ ∀ v, o.data ≠ .cell v := by
  cases b with
  | true => obtain ⟨o, ho, hc, hd⟩ := st; exact ⟨o, ho, fun v q => by rw [hd] at q; cases q⟩
  | false => obtain ⟨o, ho, hc, hd⟩ := st; exact ⟨o, ho, fun v q => by rw [hd] at q; cases q⟩
theorem IterAt.at {h h' : Heap} {b : Bool} {it a : Addr} {i : Nat} (st : IterAt h b it a i) (k : ∀ o, h.get? it = some o → h'.get? it = some o) : IterAt h' b it a i := by
  cases b with
  | true => exact Heap.IsTupleIter.at st k
  | false => exact Heap.IsListIter.at st k
def SeqIs (h : Heap) (b : Bool) (a : Addr) (items : Array Value) : Prop := if b then h.IsTuple a items else h.IsList a items
theorem drawsA {prog : Program} {w : World} {A : Around} (hh : A.handled = none) (b : Bool) (it a : Addr) (hne : a ≠ it) (items : Array Value) :
    Draws prog w A it [it, a] items.size (fun i v => items[i]? = some v) (fun i h => IterAt h b it a i ∧ SeqIs h b a items) := by
  cases b with
  | true => exact Draws.tuple hh it a hne items
  | false => exact Draws.list hh it a hne items
theorem sqA_vals {X : Cx} {pins : List (Addr × Obj)} {σ : L2.St} {H : Hp} {s : Shared} {b : Bool} {a : Addr} {xs : List V} (I : Inv X pins σ H s) (h : SqA X.K H b a xs) : ∃ its, Vals xs its ∧ SeqIs s.heap b a its.toArray ∧ a < s.heap.objs.size := by
  cases b with
  | true =>
    obtain ⟨its, rv, p, _⟩ := I.tuple h
    exact ⟨its, rv, p, by obtain ⟨o, e, _⟩ := p; exact Heap.lt_size e⟩
  | false =>
    obtain ⟨its, rv, p, _⟩ := I.list h
    exact ⟨its, rv, p.isList, p.lt⟩
theorem sqA_inj {X : Cx} {pins : List (Addr × Obj)} {σ : L2.St} {H : Hp} {s : Shared} {b : Bool} {a : Addr} {xs ys : List V} (I : Inv X pins σ H s) (h : SqA X.K H b a xs) (h2 : SqA X.K H b a ys) : xs = ys := by
  cases b with
  | true => exact I.tuple_inj h h2
  | false => exact I.list_inj h h2

theorem turn_enumA {P : Program} {w : World} {K : PySem.W.Frag} {elts : List Expr} {kk : Nat} {tpos : Pos} (b : Bool) (c : Int) (a e it : Addr) :
    Turn P w K (.Tuple elts kk tpos) (Its2 K b a c) [e, it] e (fun i h => (∃ old, IsEnum h e it (c + ((i : Nat) : Int)) old) ∧ IterAt h b it a i ∧ e ≠ it ∧ a ≠ it ∧ e ≠ a) where
  mem := by simp
  obj := fun i h st d hd => by
    obtain ⟨⟨old, he⟩, hi, _⟩ := st
    have e' : d = e ∨ d = it := by simpa using hd
    rcases e' with z | z
    · rw [z]; exact ⟨_, he, fun v q => nomatch q⟩
    · rw [z]; exact hi.get
  keep := fun i h h' st k => let ⟨⟨old, he⟩, hi, hne⟩ := st; ⟨⟨old, k e (by simp) _ he⟩, hi.at fun o q => k it (by simp) o q, hne⟩
  item := by
    intro X hP hw hK hc i pins s σ H E I hf st hg
    subst hP hw hK
    obtain ⟨⟨old, he⟩, hit, hne, hna, hea⟩ := st
    obtain ⟨xs, x, hq, hx⟩ := hg
    obtain ⟨its, rv, p, hz⟩ := sqA_vals I hq
    obtain ⟨u, hu, ru⟩ := rv.get hx
    have hel : e < s.heap.objs.size := Heap.lt_size he
    have hil : it < s.heap.objs.size := by obtain ⟨_, q, _⟩ := hit.get; exact Heap.lt_size q
    have hlt : i < its.toArray.size := by
      have := (List.getElem?_eq_some_iff.mp hu).1
      simpa using this
    refine wpAny_pyNext_enum_itemC (drawsA (prog := X.prog) (w := X.w) (A := X.A.in1) (I.ok.hd hc) b it a hna its.toArray) he ⟨hit, p⟩ hlt hne (by simp [hne, hea]) fun y h' tk hy ho hit' hT hsz hk => ?_
    have hyu : y = u := by
      have hy : its.toArray[i]? = some y := hy
      rw [List.getElem?_toArray, hu] at hy; cases hy; rfl
    subst hyu
    refine ⟨_, rfl, wpAny_letOwnedTupleGo_enum (s := { s with heap := h', toks := tk + 1 }) ho fun h'' he' sb => ?_⟩
    have hT2 : h''.get? s.heap.objs.size = some { cls := .type "tuple", data := .seq #[.int (c + (i : Nat)) tk, y] } := (sb.2 _ (Nat.ne_of_gt hel)).trans hT
    have new : ObjOk X.prog X.w (upd H s.heap.objs.size (.tup [.int (c + (i : Nat)), x])) h'' s.heap.objs.size (.tup [.int (c + (i : Nat)), x]) :=
      ⟨by show 2 ≤ sizeLine; decide, [.int (c + (i : Nat)) tk, y], .cons ⟨_, rfl⟩ (.cons ru .nil), ⟨_, hT2, rfl, _, rfl⟩⟩
    have I1 : Inv X pins σ (upd H s.heap.objs.size (.tup [.int (c + (i : Nat)), x])) { s with heap := h'', toks := tk + 1 } :=
      I.turnedNew (ch := [e, it]) (fun d ob hb q => (sb.2 d (fun z => hb (by simp [z]))).trans (hk d ob (fun z => hb (by simp [z])) (fun z => hb (by simp [z])) q)) hf (Nat.le_refl _) new
    refine ⟨.ref s.heap.objs.size, _, I1, rfl, ⟨_, x, rfl, I.hok.fresh (Nat.le_refl _), rfl, fun ys hy => by rw [sqA_inj I hy hq]; exact hx⟩, ⟨⟨y, ?_⟩, hit'.1.at fun o q => (sb.2 it (Ne.symm hne)).trans q, hne, hna, hea⟩, fun d hd => ?_⟩
    · have e1 : c + ((i + 1 : Nat) : Int) = c + (i : Int) + 1 := by omega
      rw [e1]; exact he'
    · have hb' : d < s.heap.objs.size := by
        have e' : d = e ∨ d = it := by simpa using hd
        rcases e' with z | z
        · rw [z]; exact hel
        · rw [z]; exact hil
      rw [upd_ne (Nat.ne_of_lt hb')]
      exact (hf d hd).1
  done := by
    intro X hP hw hK hc i pins s σ H E I hf st hg
    subst hP hw hK
    obtain ⟨⟨old, he⟩, hit, hne, hna, hea⟩ := st
    obtain ⟨xs, hq, hx⟩ := hg
    obtain ⟨its, rv, p, hz⟩ := sqA_vals I hq
    obtain ⟨f0, f1, f2, f3, f4, f5⟩ := hf it (by simp)
    have hl := rv.length
    have hh : X.A.handled = none := I.ok.hd hc
    have hs : its.toArray.size = i := by simp; omega
    subst hs
    exact wpAny_pyNext_enum_endD (drawsA (prog := X.prog) (w := X.w) (A := X.A.in1) hh b it a hna its.toArray) he ⟨hit, p⟩ fun h' eb => ⟨rfl, I.turned (t' := s.toks) (fun d o hb q => eb d o hb q) f0 f1 f3 f4 f5⟩
  self := fun A i s Q E st h => let ⟨⟨_, he⟩, _⟩ := st; wpAny_pyIter_enum he h

/-! ### enumerate begins -/
theorem meets_enumerate_new1 {v : Value} {o : Obj} {H : Heap → Prop} (B : Begins v o H) :
    Meets (Builtin.«enumerate.__new__» ⟨[.type "enumerate", v], []⟩) (fun _ R s => H s.heap ∧
      R (.ok (.ret (.ref (s.heap.push o).objs.size))) { s with heap := (s.heap.push o).push { cls := .type "enumerate", data := .fields #[.none, .bool false, .ref s.heap.objs.size, rawInt 0, .none, .none] } }) :=
  .of_wp fun prog w A R s h => by
    obtain ⟨hp, g, d, tk, os⟩ := s; obtain ⟨h1, h⟩ := h
    have hsub := sub_enumerate
    have q1 : ∀ {A' : Around} {E : Value → Shared → Prop} {Q : Value → Shared → Prop}, Q (.ref hp.objs.size) ⟨hp.push o, g, d, tk, os⟩ → wpAny (model prog w) A' (pyIter v) Q E ⟨hp, g, d, tk, os⟩ :=
      fun q => B.iter prog w _ _ ⟨hp, g, d, tk, os⟩ _ h1 q
    wp_walk using q1
    refine wpAny_stack_any fun st => wpAny_pure ?_
    split
    · rename_i c _ _ _ _ _
      cases (c == Value.type "enumerate")
      · wp_walk using q1
        exact ⟨_, rfl, h⟩
      · wp_walk using q1
        exact ⟨_, rfl, h⟩
    · wp_walk using q1
      exact ⟨_, rfl, h⟩
section
variable {prog : Program} {w : World} {A : Around} {E : Value → Shared → Prop} {s : Shared}
theorem enum_begins1 {v : Value} {o : Obj} {H : Heap → Prop} {Q : Value → Shared → Prop} (B : Begins v o H) (h1 : H s.heap)
    (h : ∀ h', IsEnum h' (s.heap.objs.size + 1) s.heap.objs.size 0 .none → h'.get? s.heap.objs.size = some o → h'.objs.size = s.heap.objs.size + 2 →
      (∀ b o, s.heap.get? b = some o → h'.get? b = some o) → Q (.ref (s.heap.objs.size + 1)) { s with heap := h' }) :
    wpAny (model prog w) A (call (.type "enumerate") [v]) Q E s := by
  refine callType_new F.called_enumerate (by decide) (F.typeCall_enumerate_1 _) (F.newCall_enumerate_1 _) (fun obj => F.args_object_init_2 obj _) F.entry_enumerate_new
    (meets_enumerate_new1 B) ⟨h1, ?_⟩
  have hz : (s.heap.push o).objs.size = s.heap.objs.size + 1 := Heap.size_push ..
  show _ ∧ _
  rw [hz]
  have he : IsEnum ((s.heap.push o).push { cls := .type "enumerate", data := .fields #[.none, .bool false, .ref s.heap.objs.size, rawInt 0, .none, .none] }) (s.heap.objs.size + 1) s.heap.objs.size 0 .none := by
    have := Heap.get?_push_size (s.heap.push o) (o := { cls := .type "enumerate", data := .fields #[.none, .bool false, .ref s.heap.objs.size, rawInt 0, .none, .none] }) rfl
    rw [hz] at this; exact this
  refine ⟨⟨_, he, rfl⟩, h _ he (Heap.get?_push_of_some _ (Heap.get?_push_size _ B.free)) (by rw [Heap.size_push, hz]) fun b o x => Heap.get?_push_of_some _ (Heap.get?_push_of_some _ x)⟩
end
def itObj (b : Bool) (a : Addr) : Obj := if b then { cls := .type "tuple_iterator", data := .fields #[.ref a, .int 0 0] } else { cls := .type "list_iterator", data := .fields #[.ref a, .int 0 0] }
theorem begins_A (b : Bool) (a : Addr) (items : Array Value) : Begins (.ref a) (itObj b a) fun h => SeqIs h b a items := by
  cases b with
  | true => exact begins_tuple a items
  | false => exact begins_list a items
theorem iterAt_0 {h : Heap} {b : Bool} {it a : Addr} (e : h.get? it = some (itObj b a)) : IterAt h b it a 0 := by
  cases b with
  | true => exact ⟨_, e, rfl, rfl⟩
  | false => exact ⟨_, e, rfl, rfl⟩
def iEnumA (K : PySem.W.Frag) (ta : TA) : TI := fun σ H R => ta σ H fun vs H1 => ∃ b a xs, vs = [.ref a] ∧ SqA K H1 b a xs ∧ R (Its2 K b a 0) H1
def iEnumS (K : PySem.W.Frag) (ta : TA) : TI := fun σ H R => ta σ H fun vs H1 => ∃ b a xs c, vs = [.ref a, .int c] ∧ (-(2 ^ 63) ≤ c ∧ c < 2 ^ 63) ∧ SqA K H1 b a xs ∧ R (Its2 K b a c) H1
theorem enum_end {X : Cx} {pins : List (Addr × Obj)} {σ : L2.St} {H : Hp} {s1 : Shared} {b : Bool} {a : Addr} {xs : List V} {c : Int} {R : It → Hp → Prop} {elts : List Expr} {kk : Nat} {tpos : Pos} {h' : Heap}
    (I1 : Inv X pins σ H s1) (hq : SqA X.K H b a xs) (he : IsEnum h' (s1.heap.objs.size + 1) s1.heap.objs.size c .none) (hit : h'.get? s1.heap.objs.size = some (itObj b a)) (hk : ∀ b o, s1.heap.get? b = some o → h'.get? b = some o) (q : R (Its2 X.K b a c) H) :
    wpAny (model X.prog X.w) X.A (pyIter (.ref (s1.heap.objs.size + 1))) (PIE X pins σ (.Tuple elts kk tpos) R) X.xe { s1 with heap := h' } := by
  refine wpAny_pyIter_enum he ?_
  obtain ⟨its, rv, p, hlt⟩ := sqA_vals I1 hq
  have I2 : Inv X pins σ H { s1 with heap := h' } := I1.kept (t' := s1.toks) hk
  have he0 : IsEnum h' (s1.heap.objs.size + 1) s1.heap.objs.size (c + ((0 : Nat) : Int)) .none := by
    rw [show c + ((0 : Nat) : Int) = c by omega]; exact he
  refine ⟨s1.heap.objs.size + 1, [s1.heap.objs.size + 1, s1.heap.objs.size], _, _, H, rfl, I2, turn_enumA b c a (s1.heap.objs.size + 1) s1.heap.objs.size, ⟨⟨.none, he0⟩, iterAt_0 hit, Nat.succ_ne_self _, Nat.ne_of_lt hlt, Ne.symm (Nat.ne_of_lt (Nat.lt_succ_of_lt hlt))⟩, fun d hd => ?_, q⟩
  have e' : d = s1.heap.objs.size + 1 ∨ d = s1.heap.objs.size := by simpa using hd
  have hle : s1.heap.objs.size ≤ d := by
    rcases e' with z | z
    · rw [z]; exact Nat.le_add_right _ _
    · rw [z]; exact Nat.le_refl _
  exact I1.fpOk hle (I1.hok.fresh hle)
theorem pi_enumA {X : Cx} {e : Expr} {ta : TA} {p pos tpos : Pos} {elts : List Expr} {kk : Nat} (hg : Gl X "enumerate") (hm : X.mg "enumerate" = none) (ha : PA X [e] ta) (hs : starEach [e] X.env = [(false, eval e X.env)] := by rfl) :
    PI X (.Tuple elts kk tpos) (.Call (.Name "enumerate" p) [e] [] pos) (iEnumA X.K ta) := by
  refine ⟨fun pins s σ H R I h => ?_⟩
  refine Call_ (ld_blt I hg hm boot_enumerate (PyProof.Rows.callWith_type1 (thn (ha.run pos pins s σ H _ I h) fun us s1 ⟨vs, H1, I1, r1, q1⟩ => ?_) hs rfl))
  obtain ⟨b, a, xs, ex, hq, q⟩ := q1
  subst ex
  cases r1 with
  | cons r rr =>
    cases rr
    cases r
    obtain ⟨its, rv, p', hlt⟩ := sqA_vals I1 hq
    exact enum_begins1 (begins_A b a its.toArray) p' fun h' he hit hsz hk => enum_end I1 hq he hit hk q
theorem pi_enumS {X : Cx} {e e2 : Expr} {ta : TA} {p pos tpos : Pos} {elts : List Expr} {kk : Nat} (hg : Gl X "enumerate") (hm : X.mg "enumerate" = none) (ha : PA X [e, e2] ta) (hs : starEach [e, e2] X.env = (false, eval e X.env) :: starEach [e2] X.env := by rfl) (hpl : (backTo pos (starEach [e2] X.env)).any (·.1) = false := by rfl) :
    PI X (.Tuple elts kk tpos) (.Call (.Name "enumerate" p) [e, e2] [] pos) (iEnumS X.K ta) := by
  refine ⟨fun pins s σ H R I h => ?_⟩
  refine Call_ (ld_blt I hg hm boot_enumerate (PyProof.Rows.callWith_type1 (thn (ha.run pos pins s σ H _ I h) fun us s1 ⟨vs, H1, I1, r1, q1⟩ => ?_) hs hpl))
  obtain ⟨b, a, xs, c, ex, hc, hq, q⟩ := q1
  subst ex
  cases r1 with
  | cons r rr =>
    cases rr with
    | cons r' rr =>
      cases rr
      cases r
      obtain ⟨t, rfl⟩ := r'
      obtain ⟨its, rv, p', hlt⟩ := sqA_vals I1 hq
      exact enum_begins (begins_A b a its.toArray) p' hc.1 hc.2 fun h' he hit hsz hk => enum_end I1 hq he hit hk q

/-! ### the walks as data -/
theorem wk_list {K : PySem.W.Frag} {G : Hp} {a : Addr} {vs : List V} {xs : List PyData} (h : G a = some (.lst vs)) (r : RpAll K G vs xs) : Wk K G (Itl K a) xs := fun G2 H x e i => by
  have hh : SqL K H a vs := .inl (.inl (e _ _ (x _ _ h)))
  refine ⟨fun hi => ⟨?_, fun v H' hy => ?_⟩, fun hi => ⟨vs, hh, by rw [r.length]; omega⟩⟩
  · have hl : i < vs.length := by rw [r.length]; exact hi
    exact ⟨vs, vs[i], hh, List.getElem?_eq_getElem hl⟩
  · obtain ⟨rfl, hv⟩ := hy
    obtain ⟨d, h1, h2⟩ := r.getV (hv vs hh)
    exact ⟨G2, d, h1, .refl e, h2.mono x⟩
theorem wk_tup {K : PySem.W.Frag} {G : Hp} {a : Addr} {vs : List V} {xs : List PyData} (h : SqT K G a vs) (r : RpAll K G vs xs) : Wk K G (Itt K a) xs := fun G2 H x e i => by
  have hh : SqT K H a vs := e.st (x.st h)
  refine ⟨fun hi => ⟨?_, fun v H' hy => ?_⟩, fun hi => ⟨vs, hh, by rw [r.length]; omega⟩⟩
  · have hl : i < vs.length := by rw [r.length]; exact hi
    exact ⟨vs, vs[i], hh, List.getElem?_eq_getElem hl⟩
  · obtain ⟨rfl, hv⟩ := hy
    obtain ⟨d, h1, h2⟩ := r.getV (hv vs hh)
    exact ⟨G2, d, h1, .refl e, h2.mono x⟩
def rngD (lo : Int) (n : Nat) : List PyData := (List.range n).map fun i => .int (lo + (i : Nat))
theorem rngD_len (lo : Int) (n : Nat) : (rngD lo n).length = n := by simp [rngD]
theorem rngD_get (lo : Int) (n i : Nat) (h : i < n) : (rngD lo n)[i]? = some (.int (lo + (i : Nat))) := by simp [rngD, List.getElem?_map, List.getElem?_range h]
theorem wk_rng {K : PySem.W.Frag} {G : Hp} {lo : Int} {n : Nat} : Wk K G (Itr lo n) (rngD lo n) := fun G2 H x e i => by
  refine ⟨fun hi => ⟨by rw [rngD_len] at hi; exact hi, fun v H' hy => ?_⟩, fun hi => ?_⟩
  · obtain ⟨rfl, rfl⟩ := hy
    exact ⟨G2, _, rngD_get lo n i (by simpa [rngD_len] using hi), .refl e, .int _⟩
  · show n ≤ i
    rw [rngD_len] at hi; omega
def enumD : Int → List PyData → List PyData
  | _, [] => []
  | c, x :: xs => .tuple [.int c, x] :: enumD (c + 1) xs
theorem enumD_len : ∀ (c : Int) (xs : List PyData), (enumD c xs).length = xs.length
  | _, [] => rfl
  | c, x :: xs => by simp [enumD, enumD_len (c + 1) xs]
theorem enumD_get : ∀ (c : Int) (xs : List PyData) (i : Nat) (d : PyData), xs[i]? = some d → (enumD c xs)[i]? = some (.tuple [.int (c + (i : Nat)), d])
  | _, [], _, _, h => by simp at h
  | c, x :: xs, 0, d, h => by simp at h; subst h; simp [enumD]
  | c, x :: xs, i + 1, d, h => by
    have := enumD_get (c + 1) xs i d (by simpa using h)
    simp only [enumD, List.getElem?_cons_succ, this]
    have e : c + 1 + (i : Int) = c + ((i + 1 : Nat) : Int) := by omega
    rw [e]
theorem wk_enum {K : PySem.W.Frag} {G : Hp} {b : Bool} {a : Addr} {c : Int} {vs : List V} {xs : List PyData} (h : SqA K G b a vs) (hl : b = false → G a = some (.lst vs)) (r : RpAll K G vs xs) : Wk K G (Its2 K b a c) (enumD c xs) := fun G2 H x e i => by
  have hh : SqA K H b a vs := by
    cases b with
    | true => exact e.st (x.st h)
    | false => exact e.sl (x.sl h)
  refine ⟨fun hi => ⟨?_, fun v H' hy => ?_⟩, fun hi => ⟨vs, hh, by rw [r.length, hi, enumD_len]⟩⟩
  · have hl : i < vs.length := by rw [r.length]; simpa [enumD_len] using hi
    exact ⟨vs, vs[i], hh, List.getElem?_eq_getElem hl⟩
  · obtain ⟨T, y, rfl, hT, rfl, hv⟩ := hy
    obtain ⟨d, h1, h2⟩ := r.getV (hv vs hh)
    have px := PX.laid (o := .tup [.int (c + (i : Nat)), y]) e hT
    exact ⟨_, _, enumD_get c xs i d h1, px, .tup (.inl (.inl upd_same)) (.cons (.int _) (.cons ((h2.mono x).mono px.gg) .nil))⟩
def zipD : List PyData → List PyData → List PyData
  | x :: xs, y :: ys => .tuple [x, y] :: zipD xs ys
  | _, _ => []
theorem zipD_len : ∀ (xs ys : List PyData), (zipD xs ys).length = min xs.length ys.length
  | [], _ => by simp [zipD]
  | _ :: _, [] => by simp [zipD]
  | x :: xs, y :: ys => by simp [zipD, zipD_len xs ys]
theorem zipD_get : ∀ (xs ys : List PyData) (i : Nat) (x y : PyData), xs[i]? = some x → ys[i]? = some y → (zipD xs ys)[i]? = some (.tuple [x, y])
  | [], _, _, _, _, h, _ => by simp at h
  | _ :: _, [], _, _, _, _, h => by simp at h
  | x :: xs, y :: ys, 0, _, _, h, g => by simp at h g; subst h g; rfl
  | x :: xs, y :: ys, i + 1, u, v, h, g => by
    have := zipD_get xs ys i u v (by simpa using h) (by simpa using g)
    simpa [zipD] using this
theorem Ex.sx {K : PySem.W.Frag} {H H' : Hp} {t : Bool} {a : Addr} {xs : List V} (e : Ex H H') (h : ZB.SqX K H t a xs) : ZB.SqX K H' t a xs := by
  cases t
  · exact e.sl h
  · exact e.st h
theorem wk_zipX {K : PySem.W.Frag} {G : Hp} {t u : Bool} {a b : Addr} {vs ws : List V} {xs ys : List PyData} (h : ZB.SqX K G t a vs) (r : RpAll K G vs xs) (h2 : ZB.SqX K G u b ws) (r2 : RpAll K G ws ys) : Wk K G (ZB.ItzX K t u a b) (zipD xs ys) := fun G2 H x e i => by
  have hh : ZB.SqX K H t a vs := e.sx (x.sx h)
  have hh2 : ZB.SqX K H u b ws := e.sx (x.sx h2)
  have l1 := r.length
  have l2 := r2.length
  rw [zipD_len]
  refine ⟨fun hi => ⟨?_, fun v H' hy => ?_⟩, fun hi => ⟨vs, ws, hh, hh2, by omega⟩⟩
  · have hl : i < vs.length := by omega
    have hl2 : i < ws.length := by omega
    exact ⟨vs, ws, vs[i], ws[i], hh, hh2, List.getElem?_eq_getElem hl, List.getElem?_eq_getElem hl2⟩
  · obtain ⟨T, y, z, rfl, hT, rfl, hv, hw⟩ := hy
    obtain ⟨d, h1, h2⟩ := r.getV (hv vs hh)
    obtain ⟨d2, h3, h4⟩ := r2.getV (hw ws hh2)
    have px := PX.laid (o := .tup [y, z]) e hT
    exact ⟨_, _, zipD_get xs ys i d d2 h1 h3, px, .tup (.inl (.inl upd_same)) (.cons ((h2.mono x).mono px.gg) (.cons ((h4.mono x).mono px.gg) .nil))⟩

/-! ### the walks for the text -/
/-- a list or a tuple, gone through -/
def iSeq (K : PySem.W.Frag) (te : TE) : TI := fun σ H R => te σ H fun x H1 => ∃ b a xs, x = .ref a ∧ SqA K H1 b a xs ∧ R (if b then Itt K a else Itl K a) H1
theorem pi_seqA {X : Cx} {tg l : Expr} {tl : TE} (hl : PE X l tl) : PI X tg l (iSeq X.K tl) := by
  refine ⟨fun pins s σ H R I h => ?_⟩
  refine thn (hl.run pins s σ H _ I h) fun v s1 ⟨x, H1, I1, r1, q1⟩ => ?_
  obtain ⟨b, a, xs, e, hq, q⟩ := q1
  subst e
  cases r1
  have fresh : ∀ c, c ∈ [s1.heap.objs.size] → FpOk X pins H1 c := fun c hb => by
    have e : c = s1.heap.objs.size := by simpa using hb
    subst e
    exact I1.fpOk (Nat.le_refl _) (I1.hok.fresh (Nat.le_refl _))
  cases b with
  | true =>
    obtain ⟨its, rv, p, hz⟩ := I1.tuple hq
    refine wpAny_pyIter_tuple (show s1.heap.IsTuple a its.toArray from p) ?_
    exact ⟨s1.heap.objs.size, [s1.heap.objs.size], _, _, H1, rfl, I1.kept (t' := s1.toks) fun b o e => Heap.get?_push_of_some _ e, turn_tuple a _, ⟨_, Heap.get?_push_size _ rfl, rfl, rfl⟩, fresh, q⟩
  | false =>
    obtain ⟨its, rv, p, hz⟩ := I1.list hq
    refine wpAny_pyIter_list p.isList ?_
    exact ⟨s1.heap.objs.size, [s1.heap.objs.size], _, _, H1, rfl, I1.kept (t' := s1.toks) fun b o e => Heap.get?_push_of_some _ e, turn_list a _, ⟨_, Heap.get?_push_size _ rfl, rfl, rfl⟩, fresh, q⟩
def sSeqI (fd : DS) : LS := fun S => (fd S).bind fun p => (dItems p.1).map fun xs => (xs, p.2)
theorem dItems_some {x : PyData} {xs : List PyData} (h : dItems x = some xs) : x = .list xs ∨ x = .tuple xs := by
  cases x with
  | list c => cases h; exact .inl rfl
  | tuple c => cases h; exact .inr rfl
  | _ => cases h
section
variable {X : Cx} {K : PySem.W.Frag} {e e2 : Expr} {te : TE} {ta : TA} {fd : DS} {fs : AS} {tg : Expr} {p pos tpos : Pos} {elts : List Expr} {kk : Nat}
theorem sem_seqI (h : SemD K te fd) : SemI K (iSeq K te) (sSeqI fd) := fun F S σ H G xs S' r ef R k => by
  obtain ⟨⟨x, S1⟩, e1, e2⟩ := Option.bind_eq_some_iff.mp ef
  obtain ⟨ys, e3, e4⟩ := Option.map_eq_some_iff.mp e2
  cases e4
  refine h F S σ H G x _ r e1 _ fun v H1 G1 r1 g1 hv => ?_
  rcases dItems_some e3 with rfl | rfl
  · cases hv with
    | lst h1 h2 => exact ⟨false, _, _, rfl, .inl (.inl (r1.gh _ _ h1)), k _ H1 G1 r1 g1 (wk_list h1 h2)⟩
  · cases hv with
    | tup h1 h2 => exact ⟨true, _, _, rfl, r1.gh.st h1, k _ H1 G1 r1 g1 (wk_tup h1 h2)⟩
theorem si_seq (hK : X.K = K) (h : SDt X K e te fd) : SI X K tg e (iSeq K te) (sSeqI fd) := by subst hK; exact ⟨pi_seqA h.p, sem_seqI h.ok⟩
/-- the arguments, standing still -/
def sTakeA (f : AS) : List SD → Option (List PyData × List SD) := fun S => (f S).bind fun p => takeAll p.2 p.1
theorem take_A (h : SemA K ta fs) {F : Fr} {S S' : List SD} {σ : L2.St} {H G : Hp} {xs : List PyData} (r : SR K F S σ H G) (ef : sTakeA fs S = some (xs, S')) {Q : List V → Hp → Prop} (k : ∀ vs H' G', SR K F S' σ H' G' → Ex G G' → RpAll K G' vs xs → Q vs H') : ta σ H Q := by
  obtain ⟨⟨os, S1⟩, e1, e2⟩ := Option.bind_eq_some_iff.mp ef
  refine h F S σ H G os S1 r e1 _ fun vs H1 G1 r1 g1 h1 => ?_
  obtain ⟨G2, g2, r2, h2⟩ := takeAll_ok r1 h1 e2
  exact k vs H1 G2 r2 (g1.trans g2) h2
open Classical in
noncomputable def rngI : List PyData → Option (List PyData)
  | [.int j] => if -(2 ^ 62) ≤ j ∧ j < 2 ^ 62 then some (rngD 0 j.toNat) else none
  | [.int i, .int j] => if -(2 ^ 62) ≤ i ∧ i < 2 ^ 62 ∧ -(2 ^ 62) ≤ j ∧ j < 2 ^ 62 then some (rngD i (j - i).toNat) else none
  | _ => none
open Classical in
noncomputable def enumI : List PyData → Option (List PyData)
  | [x] => (dItems x).map (enumD 0)
  | [x, .int c] => if -(2 ^ 63) ≤ c ∧ c < 2 ^ 63 then (dItems x).map (enumD c) else none
  | _ => none
def zipI : List PyData → Option (List PyData)
  | [x, y] => (dItems x).bind fun xs => (dItems y).map fun ys => zipD xs ys
  | _ => none
def sArgI (g : List PyData → Option (List PyData)) (f : AS) : LS := fun S => (sTakeA f S).bind fun p => (g p.1).map fun xs => (xs, p.2)
theorem sem_rng1 (h : SemA K ta fs) (hn : ∀ S p S', sTakeA fs S = some (p, S') → p.length = 1) : SemI K (iRng1 ta) (sArgI rngI fs) := fun F S σ H G xs S' r ef R k => by
  obtain ⟨⟨x, S1⟩, e1, e2⟩ := Option.bind_eq_some_iff.mp ef
  obtain ⟨ys, e3, e4⟩ := Option.map_eq_some_iff.mp e2
  cases e4
  have hl : x.length = _ := hn _ _ _ e1
  have e3 : rngI x = some _ := e3
  refine take_A h r e1 fun vs H1 G1 r1 g1 hv => ?_
  unfold rngI at e3
  split at e3
  · split at e3
    · rename_i hc
      cases e3
      cases hv with
      | cons hv t => cases t; cases hv; exact ⟨_, rfl, hc.1, hc.2, k _ H1 G1 r1 g1 wk_rng⟩
    · cases e3
  · simp at hl
  · cases e3
theorem sem_rng2 (h : SemA K ta fs) (hn : ∀ S p S', sTakeA fs S = some (p, S') → p.length = 2) : SemI K (iRng2 ta) (sArgI rngI fs) := fun F S σ H G xs S' r ef R k => by
  obtain ⟨⟨x, S1⟩, e1, e2⟩ := Option.bind_eq_some_iff.mp ef
  obtain ⟨ys, e3, e4⟩ := Option.map_eq_some_iff.mp e2
  cases e4
  have hl : x.length = _ := hn _ _ _ e1
  have e3 : rngI x = some _ := e3
  refine take_A h r e1 fun vs H1 G1 r1 g1 hv => ?_
  unfold rngI at e3
  split at e3
  · simp at hl
  · split at e3
    · rename_i hc
      cases e3
      cases hv with
      | cons hv t => cases t with
        | cons hv2 t => cases t; cases hv; cases hv2; exact ⟨_, _, rfl, hc, k _ H1 G1 r1 g1 wk_rng⟩
    · cases e3
  · cases e3
theorem rp_sqA {G H : Hp} {v : V} {x : PyData} {ds : List PyData} (h : Rp K G v x) (e : dItems x = some ds) (eg : Ex G H) : ∃ b a vs, v = .ref a ∧ SqA K G b a vs ∧ SqA K H b a vs ∧ (b = false → G a = some (.lst vs)) ∧ RpAll K G vs ds := by
  rcases dItems_some e with rfl | rfl
  · cases h with
    | lst h1 h2 => exact ⟨false, _, _, rfl, .inl (.inl h1), .inl (.inl (eg _ _ h1)), fun _ => h1, h2⟩
  · cases h with
    | tup h1 h2 => exact ⟨true, _, _, rfl, h1, eg.st h1, fun q => (by cases q), h2⟩
theorem sem_enumA (h : SemA K ta fs) (hn : ∀ S p S', sTakeA fs S = some (p, S') → p.length = 1) : SemI K (iEnumA K ta) (sArgI enumI fs) := fun F S σ H G xs S' r ef R k => by
  obtain ⟨⟨x, S1⟩, e1, e2⟩ := Option.bind_eq_some_iff.mp ef
  obtain ⟨ys, e3, e4⟩ := Option.map_eq_some_iff.mp e2
  cases e4
  have hl : x.length = _ := hn _ _ _ e1
  have e3 : enumI x = some _ := e3
  refine take_A h r e1 fun vs H1 G1 r1 g1 hv => ?_
  unfold enumI at e3
  split at e3
  · obtain ⟨ds, e5, e6⟩ := Option.map_eq_some_iff.mp e3
    cases e6
    cases hv with
    | cons hv t =>
      cases t
      obtain ⟨b, a, ws, rfl, q1, q2, q3, q4⟩ := rp_sqA hv e5 r1.gh
      exact ⟨b, a, ws, rfl, q2, k _ H1 G1 r1 g1 (wk_enum q1 q3 q4)⟩
  · simp at hl
  · cases e3
theorem sem_enumS (h : SemA K ta fs) (hn : ∀ S p S', sTakeA fs S = some (p, S') → p.length = 2) : SemI K (iEnumS K ta) (sArgI enumI fs) := fun F S σ H G xs S' r ef R k => by
  obtain ⟨⟨x, S1⟩, e1, e2⟩ := Option.bind_eq_some_iff.mp ef
  obtain ⟨ys, e3, e4⟩ := Option.map_eq_some_iff.mp e2
  cases e4
  have hl : x.length = _ := hn _ _ _ e1
  have e3 : enumI x = some _ := e3
  refine take_A h r e1 fun vs H1 G1 r1 g1 hv => ?_
  unfold enumI at e3
  split at e3
  · simp at hl
  · split at e3
    · rename_i hc
      obtain ⟨ds, e5, e6⟩ := Option.map_eq_some_iff.mp e3
      cases e6
      cases hv with
      | cons hv t => cases t with
        | cons hv2 t =>
          cases t
          obtain ⟨b, a, ws, rfl, q1, q2, q3, q4⟩ := rp_sqA hv e5 r1.gh
          cases hv2
          exact ⟨b, a, ws, _, rfl, hc, q2, k _ H1 G1 r1 g1 (wk_enum q1 q3 q4)⟩
    · cases e3
  · cases e3
theorem rp_sqX {G : Hp} {v : V} {x : PyData} {xs : List PyData} (hv : Rp K G v x) (e : dItems x = some xs) : ∃ (t : Bool) (a : Addr) (ws : List V), v = .ref a ∧ ZB.SqX K G t a ws ∧ RpAll K G ws xs := by
  rcases dItems_some e with rfl | rfl
  · cases hv with
    | lst h1 h2 => exact ⟨false, _, _, rfl, .inl (.inl h1), h2⟩
  · cases hv with
    | tup h1 h2 => exact ⟨true, _, _, rfl, h1, h2⟩
theorem sem_zip (h : SemA K ta fs) : SemI K (ZB.iZipX K ta) (sArgI zipI fs) := fun F S σ H G xs S' r ef R k => by
  obtain ⟨⟨x, S1⟩, e1, e2⟩ := Option.bind_eq_some_iff.mp ef
  obtain ⟨ys, e3, e4⟩ := Option.map_eq_some_iff.mp e2
  cases e4
  have e3 : zipI x = some _ := e3
  refine take_A h r e1 fun vs H1 G1 r1 g1 hv => ?_
  unfold zipI at e3
  split at e3
  · obtain ⟨xs, q1, e3⟩ := Option.bind_eq_some_iff.mp e3
    obtain ⟨ys, q2, e3⟩ := Option.map_eq_some_iff.mp e3
    cases e3
    cases hv with
    | cons hv t => cases t with
      | cons hv2 t =>
        cases t
        obtain ⟨t, a, ws, rfl, s1, s2⟩ := rp_sqX hv q1
        obtain ⟨u, b, us, rfl, s3, s4⟩ := rp_sqX hv2 q2
        exact ⟨_, _, _, _, _, _, rfl, r1.gh.sx s1, r1.gh.sx s3, k _ H1 G1 r1 g1 (wk_zipX s1 s2 s3 s4)⟩
  · cases e3
theorem takeAll_len : ∀ {os : List Op} {S S' : List SD} {xs : List PyData}, takeAll S os = some (xs, S') → xs.length = os.length
  | [], _, _, _, e => by cases e; rfl
  | o :: os, S, S', _, e => by
    unfold takeAll at e
    obtain ⟨⟨x, S1⟩, e1, e⟩ := Option.bind_eq_some_iff.mp e
    obtain ⟨⟨xs, S2⟩, e2, e3⟩ := Option.map_eq_some_iff.mp e
    cases e3
    simp [takeAll_len e2]
theorem len_cons {fe : ES} {n : Nat} (h : ∀ S p S', fs S = some (p, S') → p.length = n) : ∀ S p S', sCons fe fs S = some (p, S') → p.length = n + 1 := fun S p S' e => by
  obtain ⟨⟨o1, S1⟩, e1, e2⟩ := Option.bind_eq_some_iff.mp e
  obtain ⟨⟨o2, S2⟩, e3, e4⟩ := Option.map_eq_some_iff.mp e2
  cases e4
  simp [h _ _ _ e3]
theorem len_nil : ∀ S p S', sNil S = some (p, S') → p.length = 0 := fun S p S' e => by cases e; rfl
theorem len_take {n : Nat} (h : ∀ S p S', fs S = some (p, S') → p.length = n) : ∀ S p S', sTakeA fs S = some (p, S') → p.length = n := fun S p S' e => by
  obtain ⟨⟨os, S1⟩, e1, e2⟩ := Option.bind_eq_some_iff.mp e
  rw [takeAll_len e2, h _ _ _ e1]
theorem si_rng1 {a : Expr} {fe : ES} (hm : X.mg "range" = none) (ha : SA X K [a] ta (sCons fe sNil)) (hg : Gl X "range" := by rfl) (hs : starEach [a] X.env = [(false, eval a X.env)] := by rfl) : SI X K tg (.Call (.Name "range" p) [a] [] pos) (iRng1 ta) (sArgI rngI (sCons fe sNil)) :=
  ⟨pi_range1 hg hm ha.p hs, sem_rng1 ha.ok (len_take (len_cons len_nil))⟩
theorem si_rng2 {a b : Expr} {fe fe2 : ES} (hm : X.mg "range" = none) (ha : SA X K [a, b] ta (sCons fe (sCons fe2 sNil))) (hg : Gl X "range" := by rfl) (hs : starEach [a, b] X.env = [(false, eval a X.env), (false, eval b X.env)] := by rfl) (hs2 : starEach [b] X.env = [(false, eval b X.env)] := by rfl) :
    SI X K tg (.Call (.Name "range" p) [a, b] [] pos) (iRng2 ta) (sArgI rngI (sCons fe (sCons fe2 sNil))) :=
  ⟨pi_range2 hg hm ha.p hs hs2, sem_rng2 ha.ok (len_take (len_cons (len_cons len_nil)))⟩
theorem si_enum {fe : ES} (hK : X.K = K) (hm : X.mg "enumerate" = none) (ha : SA X K [e] ta (sCons fe sNil)) (hg : Gl X "enumerate" := by rfl) (hs : starEach [e] X.env = [(false, eval e X.env)] := by rfl) : SI X K (.Tuple elts kk tpos) (.Call (.Name "enumerate" p) [e] [] pos) (iEnumA K ta) (sArgI enumI (sCons fe sNil)) := by
  subst hK
  exact ⟨pi_enumA hg hm ha.p hs, sem_enumA ha.ok (len_take (len_cons len_nil))⟩
theorem si_enumS {fe fe2 : ES} (hK : X.K = K) (hm : X.mg "enumerate" = none) (ha : SA X K [e, e2] ta (sCons fe (sCons fe2 sNil))) (hg : Gl X "enumerate" := by rfl) (hs : starEach [e, e2] X.env = (false, eval e X.env) :: starEach [e2] X.env := by rfl) (hpl : (backTo pos (starEach [e2] X.env)).any (·.1) = false := by rfl) :
    SI X K (.Tuple elts kk tpos) (.Call (.Name "enumerate" p) [e, e2] [] pos) (iEnumS K ta) (sArgI enumI (sCons fe (sCons fe2 sNil))) := by
  subst hK
  exact ⟨pi_enumS hg hm ha.p hs hpl, sem_enumS ha.ok (len_take (len_cons (len_cons len_nil)))⟩
theorem si_zip (hK : X.K = K) (hm : X.mg "zip" = none) (ha : SA X K [e, e2] ta fs) (hg : Gl X "zip" := by rfl) (hs : starEach [e, e2] X.env = (false, eval e X.env) :: starEach [e2] X.env := by rfl) (hpl : (backTo pos (starEach [e2] X.env)).any (·.1) = false := by rfl) :
    SI X K (.Tuple elts kk tpos) (.Call (.Name "zip" p) [e, e2] [] pos) (ZB.iZipX K ta) (sArgI zipI fs) := by
  subst hK
  exact ⟨ZB.pi_zipX hg hm ha.p hs hpl, sem_zip ha.ok⟩
end
/-! ### sorted of ints, out of a list or a tuple -/
section
variable {X : Cx} {K : PySem.W.Frag}
def dSortedL : List PyData → Option (List PyData)
  | [x] => (dItems x).bind fun xs => (dInts xs).map fun ns => (sortI ns).map .int
  | _ => none
theorem crSorted (hK : X.K = K) : CallR X (.builtin "sorted") (ZB.rSortX K) := by subst hK; exact ZB.cr_sortX
theorem vSortedL : VL K (ZB.rSortX K) dSortedL := fun G H vs xs z e rs q Q k => by
  unfold dSortedL at q
  split at q
  · obtain ⟨ys, q1, q⟩ := Option.bind_eq_some_iff.mp q
    obtain ⟨ns, q2, q⟩ := Option.map_eq_some_iff.mp q
    cases q
    have hx := dInts_some q2
    subst hx
    cases rs with
    | cons r t =>
      cases t
      have key : ∀ (a : Addr) (t : Bool), ZB.SqX K H t a (ns.map V.int) → ZB.rSortX K [.ref a] H Q := fun a t hs => by
        refine ⟨a, t, ns, rfl, hs, fun ns' p pm so hp => ?_⟩
        have hs : ns' = sortI ns := sorted_unique (pm.trans (sortI_perm ns).symm) so (sortI_sorted ns)
        subst hs
        exact k p _ _ G (PX.side e hp) hp (e.free hp) upd_same (RpAll.of_ints _)
      rcases dItems_some q1 with rfl | rfl
      · obtain ⟨a, ws, rfl, h2, h3⟩ := r.lst e
        have hw := h3.ints
        subst hw
        exact key a false (.inl (.inl h2))
      · obtain ⟨a, ws, rfl, h2, h3⟩ := r.tup e
        have hw := h3.ints
        subst hw
        exact key a true h2
  · cases q
end
end DL

set_option Elab.async false
set_option linter.all false
set_option maxRecDepth 100000
set_option maxHeartbeats 4000000
/-! DL, part 8: slices. -/
namespace DL
open PySem PySem.Spec PyProof.Rows L2

/-! ### t[::-1] of a tuple -/
theorem adjust_rev (n : Nat) : Builtin.Slice.sliceAdjust none none (-1) (n : Int) = ((n : Int) - 1, -1) := by
  unfold Builtin.Slice.sliceAdjust
  simp
theorem places_rev (n : Nat) : Builtin.Slice.slicePlaces ((n : Int) - 1) (-1) (-1) = n := by
  unfold Builtin.Slice.slicePlaces
  simp
  split <;> omega
theorem pick_rev (xs : Array Value) : ((List.range xs.size).filterMap fun (m : Nat) => xs[(((xs.size : Int) - 1) + (m : Int) * (-1)).toNat]?).toArray = xs.toList.reverse.toArray := by
  congr 1
  apply List.ext_getElem?
  intro i
  have e : ((List.range xs.size).filterMap fun (m : Nat) => xs[(((xs.size : Int) - 1) + (m : Int) * (-1)).toNat]?) = (List.range xs.size).pmap (fun m h => xs[xs.size - 1 - m]'(by have : m < xs.size := h; omega)) (fun m h => List.mem_range.mp h) := by
    rw [List.pmap_eq_map_attach]
    have : ∀ (l : List Nat) (hl : ∀ m ∈ l, m < xs.size), (l.filterMap fun (m : Nat) => xs[(((xs.size : Int) - 1) + (m : Int) * (-1)).toNat]?) = l.attach.map (fun m => xs[xs.size - 1 - m.1]'(by have := hl m.1 m.2; omega)) := by
      intro l
      induction l with
      | nil => intro _; rfl
      | cons m l ih =>
        intro hl
        have hm := hl m (by simp)
        have e1 : (((xs.size : Int) - 1) + (m : Int) * (-1)).toNat = xs.size - 1 - m := by omega
        have e2 : xs[xs.size - 1 - m]? = some (xs[xs.size - 1 - m]'(by omega)) := Array.getElem?_eq_getElem (by omega)
        rw [List.filterMap_cons, e1, e2, List.attach_cons, List.map_cons, List.map_map]
        simp only [List.cons.injEq, true_and]
        rw [ih fun k hk => hl k (List.mem_cons_of_mem _ hk)]
        rfl
    exact this _ fun m h => List.mem_range.mp h
  rw [e, List.getElem?_pmap]
  by_cases hi : i < xs.size
  · rw [List.getElem?_reverse (by simpa using hi)]
    simp [List.getElem?_range hi, hi]
  · rw [List.getElem?_eq_none (l := xs.toList.reverse) (by simpa using Nat.le_of_not_lt hi), ← List.getElem?_pmap, List.getElem?_eq_none (by simpa using Nat.le_of_not_lt hi)]
section
variable {prog : Program} {w : World} {A : Around} {E : Value → Shared → Prop} {s : Shared}
open HT
theorem sliceApplied_rev {sl : Addr} {vl vu vs : Value} {n : Nat} {Q : Int × Int × Nat → Shared → Prop} (hs : s.heap.IsSliceOf sl vl vu vs) (pl : IsPart vl none) (pu : IsPart vu none) (ps : IsPart vs (some (-1)))
    (h : Q ((n : Int) - 1, -1, n) s) : wpAny (model prog w) A (Builtin.Slice.sliceApplied (.ref sl) (pure (n : Int))) Q E s := by
  obtain ⟨os, hos, hcs, hds⟩ := id hs
  unfold Builtin.Slice.sliceApplied Builtin.Slice.sliceFields
  refine wpAny_bind (wpAny_bind (wpAny_field hos hds (x := vl) rfl (wpAny_bind (wpAny_field hos hds (x := vu) rfl (wpAny_bind (wpAny_field hos hds (x := vs) rfl (wpAny_pure ?_)))))))
  refine wpAny_bind (slicePart_ ps ?_)
  show wpAny _ _ (if ((-1 : Int) == 0) = true then _ else _) _ _ s
  rw [if_neg (by decide)]
  refine wpAny_bind (slicePart_ pl (wpAny_bind (slicePart_ pu (wpAny_bind (wpAny_pure ?_)))))
  show wpAny _ _ (match Builtin.Slice.sliceAdjust none none (-1) (n : Int) with | (lo, hi) => pure (lo, (-1 : Int), Builtin.Slice.slicePlaces lo hi (-1))) _ _ s
  rw [adjust_rev n]
  show wpAny _ _ (pure (((n : Int) - 1), (-1 : Int), Builtin.Slice.slicePlaces ((n : Int) - 1) (-1) (-1))) _ _ s
  rw [places_rev]
  exact wpAny_pure h
theorem getItem_tuple_rev {t sl : Addr} {items : Array Value} {vl vu vs : Value} {Q : Value → Shared → Prop} (ht : IsTup s.heap t items) (hs : s.heap.IsSliceOf sl vl vu vs) (pl : IsPart vl none) (pu : IsPart vu none) (ps : IsPart vs (some (-1)))
    (h : Q (.ref s.heap.objs.size) { s with heap := s.heap.push { cls := .type "tuple", data := .seq items.toList.reverse.toArray } })
    (hsz : items.size ≤ sizeLine) : wpAny (model prog w) A (getItem (.ref t) (.ref sl)) Q E s := by
  have htake : sizeOk (.seq items.toList.reverse.toArray) := by
    show items.toList.reverse.toArray.size ≤ sizeLine
    rw [List.size_toArray, List.length_reverse, Array.length_toList]
    omega
  obtain ⟨os, hos, hcs, hds⟩ := id hs
  have hTs : s.TypeIs (.ref sl) "slice" := ⟨os, hos, hcs⟩
  unfold getItem
  try with_reducible refine wpAny_holding ?_
  first | refine wpAny_bind (wpAny_pure ?_) | skip
  refine wpAny_bind (wpAny_sequenceKey ht.typeIs (by decide) ?_)
  refine wpAny_bind (wpAny_callSpecial?_slot (name := Str.ofString "__getitem__") ht.typeIs PyProof.Rows.slot_tuple_getitem
    (wpAny_call_entry PyProof.Rows.slot_tuple_getitem ht.typeIs entry_tuple_getitem ?_ (args_tuple_getitem _ _)))
  show wpAny _ _ (Builtin.Tuple.tupleItemsOf (.ref t) >>= _) _ _ s
  refine wpAny_bind (tupleItemsOf_ ht ?_)
  refine wpAny_bind (wpAny_typeOf hTs ?_)
  rw [if_pos (by decide)]
  refine wpAny_bind (sliceApplied_rev hs pl pu ps ?_)
  have hno : ¬ ((((items.size : Int) - 1) == 0 && (-1 : Int) == 1 && items.size == items.size) = true) := by
    intro q
    rw [Bool.and_eq_true, Bool.and_eq_true] at q
    exact absurd q.1.2 (by decide)
  show wpAny _ _ (if (((items.size : Int) - 1) == 0 && (-1 : Int) == 1 && items.size == items.size) = true then _ else _) _ _ s
  rw [if_neg hno, pick_rev]
  first
    | exact wpAny_bind (m := Builtin.Tuple.tupleExact _) (wpAny_newObj_type (wpAny_pure ⟨_, rfl, wpAny_pure h⟩) htake)
    | exact wpAny_bind (m := Builtin.Tuple.tupleExact _) (wpAny_newObj_type (wpAny_bind (wpAny_pure (wpAny_pure ⟨_, rfl, wpAny_pure h⟩))) htake)
    | exact wpAny_bind (wpAny_bind (m := Builtin.Tuple.tupleExact _) (wpAny_newObj_type (wpAny_pure (wpAny_pure ⟨_, rfl, wpAny_pure h⟩)) htake))
    | exact wpAny_bind (wpAny_bind (m := Builtin.Tuple.tupleExact _) (wpAny_newObj_type (wpAny_pure ⟨_, rfl, wpAny_pure h⟩) htake))
end
/-- xs[::-1], a list or a tuple -/
def tRevA (K : PySem.W.Frag) (te : TE) : TE := fun σ H Q => te σ H fun x H1 => ∃ a xs, x = .ref a ∧ ((SqL K H1 a xs ∧ ∀ p, H1 p = none → Q (.ref p) (upd H1 p (.lst xs.reverse))) ∨ (SqT K H1 a xs ∧ ∀ p, H1 p = none → Q (.ref p) (upd H1 p (.tup xs.reverse))))
theorem pe_revA {X : Cx} {e : Expr} {te : TE} {k : Nat} {p1 p2 p3 pos : Pos} (he : PE X e te) : PE X (.Subscript e (.Slice none none (some (.UnaryOp .USub (.Constant (.int 1) k p1) p2)) p3) pos) (tRevA X.K te) := by
  refine ⟨fun pins s σ H Q I h => ?_⟩
  refine Subscript_ (thn (he.run pins s σ H _ I h) fun v s1 ⟨x, H1, I1, r1, q1⟩ => ?_)
  obtain ⟨a, xs, ex, q⟩ := q1
  subst ex
  cases r1
  have hst : PO X (some (.UnaryOp .USub (.Constant (.int 1) k p1) p2)) (tPart (tUn (rU fun i => .int (-i)) (tC (.int 1)))) := po_some (pe_un un_neg pe_int)
  refine wpAny_Slice (thn (po_none.run pins s1 σ H1 (fun o H2 => o = none ∧ H2 = H1) I1 ⟨rfl, rfl⟩) fun vl s2 ⟨l, H2, I2, pl, el, e2⟩ => ?_)
  subst el e2
  refine thn (po_none.run pins s2 σ H2 (fun o H3 => o = none ∧ H3 = H2) I2 ⟨rfl, rfl⟩) fun vu s3 ⟨u, H3, I3, pu, eu, e3⟩ => ?_
  subst eu e3
  refine thn (hst.run pins s3 σ H3 (fun o H4 => o = some (-1) ∧ H4 = H3) I3 ⟨1, rfl, -1, rfl, rfl, rfl⟩) fun vs s4 ⟨o, H4, I4, ps, eo, e4⟩ => ?_
  subst eo e4
  have I5 : Inv X pins σ H4 { s4 with heap := s4.heap.push { cls := .type "slice", data := .fields #[vl, vu, vs] } } := I4.kept (t' := s4.toks) fun b ob q => Heap.get?_push_of_some _ q
  show wpAny (model X.prog X.w) X.A (subscriptTail e (.Slice none none (some (.UnaryOp .USub (.Constant (.int 1) k p1) p2)) p3) (.ref a) (.ref s4.heap.objs.size)) (EP X pins σ Q) X.xe { s4 with heap := s4.heap.push { cls := .type "slice", data := .fields #[vl, vu, vs] } }
  rcases q with ⟨hx, q⟩ | ⟨hx, q⟩
  · obtain ⟨its, r, ht, hz⟩ := I5.list hx
    have hlen := r.length
    refine tail_any (ops := [.ref a, .ref s4.heap.objs.size]) ht.isList.typeIs (PySem.slot_list_getitem.lookup) ?_ (by with_unfolding_all rfl)
    refine wpAny_getItem_list_slice ht.isList (Heap.IsSliceOf.new _ vl vu vs) pl pu ps (by decide) ?_ (by rw [List.size_toArray]; omega)
    rw [PySem.W.krv_pick]
    refine ⟨.ref _, _, I5.laid (t' := s4.toks) (o := .lst xs.reverse) (fun b ob q => Heap.get?_push_of_some _ q) (Nat.le_refl _) ?_, rfl, q _ (I5.hok.fresh (Nat.le_refl _))⟩
    exact ⟨by rw [List.length_reverse]; exact hz, _, 0, r.reverse, Heap.get?_push_size _ rfl⟩
  · obtain ⟨its, r, ht, hz⟩ := I5.tuple hx
    have hlen := r.length
    refine tail_any (ops := [.ref a, .ref s4.heap.objs.size]) ht.typeIs PyProof.Rows.slot_tuple_getitem.lookup ?_ (by with_unfolding_all rfl)
    refine getItem_tuple_rev ht (Heap.IsSliceOf.new _ vl vu vs) pl pu ps ?_ (by rw [List.size_toArray]; omega)
    rw [show its.toArray.toList = its from rfl]
    refine ⟨.ref _, _, I5.laid (t' := s4.toks) (o := .tup xs.reverse) (fun b ob q => Heap.get?_push_of_some _ q) (Nat.le_refl _) ?_, rfl, q _ (I5.hok.fresh (Nat.le_refl _))⟩
    exact ⟨by rw [List.length_reverse]; exact hz, _, r.reverse, IsTup.new _ _⟩

/-! ### slices over data -/
abbrev OS := List SD → Option (Option Int × List SD)
def SemO (K : PySem.W.Frag) (t : TO) (f : OS) : Prop := ∀ F S σ H G o S', SR K F S σ H G → f S = some (o, S') → ∀ Q : Option Int → Hp → Prop, (∀ H' G', SR K F S' σ H' G' → Ex G G' → Q o H') → t σ H Q
structure SO (X : Cx) (K : PySem.W.Frag) (e : Option Expr) (t : TO) (f : OS) : Prop where
  p : PO X e t
  ok : SemO K t f
def sNoPart : OS := fun S => some (none, S)
def dIntO : PyData → Option Int
  | .int i => some i
  | _ => none
theorem dIntO_some {x : PyData} {i : Int} (h : dIntO x = some i) : x = .int i := by
  cases x with
  | int j => cases h; rfl
  | _ => cases h
def sPart (f : ES) : OS := fun S => (f S).bind fun p => (p.1.get p.2).bind fun x => (dIntO x).map fun i => (some i, p.2)
section
variable {X : Cx} {K : PySem.W.Frag} {e : Expr} {te : TE} {fe : ES} {lo hi : Option Expr} {tl th : TO} {fl fh : OS} {pos p2 : Pos}
theorem sem_noPart : SemO K tNoPart sNoPart := fun F S σ H G o S' r ef Q k => by
  cases ef
  exact k H G r (.refl _)
theorem sem_part (h : SemE K te fe) : SemO K (tPart te) (sPart fe) := fun F S σ H G o S' r ef Q k => by
  obtain ⟨⟨o1, S1⟩, e1, ef⟩ := Option.bind_eq_some_iff.mp ef
  obtain ⟨x, e2, ef⟩ := Option.bind_eq_some_iff.mp ef
  obtain ⟨i, e3, ef⟩ := Option.map_eq_some_iff.mp ef
  cases ef
  have hx := dIntO_some e3
  subst hx
  refine h F S σ H G o1 _ r e1 _ fun v H1 G1 r1 g1 h1 => ?_
  have := op_get r1 h1 e2
  exact ⟨i, this.int, k H1 G1 r1 g1⟩
theorem so_none : SO X K none tNoPart sNoPart := ⟨po_none, sem_noPart⟩
theorem so_some (h : SE X K e te fe) : SO X K (some e) (tPart te) (sPart fe) := ⟨po_some h.p, sem_part h.ok⟩
def cutD (xs : List PyData) (lo hi : Option Int) : List PyData := (xs.drop (HT.sIx xs.length 0 lo)).take (HT.sIx xs.length xs.length hi - HT.sIx xs.length 0 lo)
theorem RpAll.cut {G : Hp} {vs : List V} {xs : List PyData} (h : RpAll K G vs xs) (lo hi : Option Int) : RpAll K G (cutV vs lo hi) (cutD xs lo hi) := by
  unfold cutV cutD
  rw [h.length]
  exact (h.drop _).take _
def dCut (x : PyData) (lo hi : Option Int) : Option PyData := match x with
  | .tuple xs => some (.tuple (cutD xs lo hi))
  | .list xs => some (.list (cutD xs lo hi))
  | _ => none
def dCutL (x : PyData) (lo hi : Option Int) : Option (List PyData) := match x with
  | .list xs => some (cutD xs lo hi)
  | _ => none
def rSl2 (K : PySem.W.Frag) : V → Option Int → Option Int → Hp → VK → Prop := fun x lo hi H Q => rSlA K x lo hi H Q ∨ rSlL K x lo hi H Q
theorem sl_2 (hK : X.K = K) : SlR X (rSl2 K) := by subst hK; exact sl_tupA.or sl_list
def sSlice (fe : ES) (fl fh : OS) : ES := fun S => (fe S).bind fun p => (fl p.2).bind fun q => (fh q.2).bind fun r => (p.1.get r.2).bind fun x => (dCut x q.1 r.1).map fun z => (.dat z, r.2)
def sSliceL (fe : ES) (fl fh : OS) : LS := fun S => (fe S).bind fun p => (fl p.2).bind fun q => (fh q.2).bind fun r => (p.1.get r.2).bind fun x => (dCutL x q.1 r.1).map fun z => (z, r.2)
theorem whole_cut {xs : List V} {lo hi : Option Int} (h : HT.sIx xs.length 0 lo = 0 ∧ HT.sIx xs.length xs.length hi = xs.length) : cutV xs lo hi = xs := by
  unfold cutV
  rw [h.1, h.2]
  simp
theorem sem_slice (ha : SemE K te fe) (h1 : SemO K tl fl) (h2 : SemO K th fh) : SemE K (tSl (rSl2 K) te tl th) (sSlice fe fl fh) := fun F S σ H G o S' r ef Q k => by
  obtain ⟨⟨o1, S1⟩, e1, ef⟩ := Option.bind_eq_some_iff.mp ef
  obtain ⟨⟨l, S2⟩, e2, ef⟩ := Option.bind_eq_some_iff.mp ef
  obtain ⟨⟨u, S3⟩, e3, ef⟩ := Option.bind_eq_some_iff.mp ef
  obtain ⟨x, e4, ef⟩ := Option.bind_eq_some_iff.mp ef
  obtain ⟨z, e5, ef⟩ := Option.map_eq_some_iff.mp ef
  cases ef
  refine ha F S σ H G o1 S1 r e1 _ fun v H1 G1 r1 g1 q1 => ?_
  refine h1 F S1 σ H1 G1 l S2 r1 e2 _ fun H2 G2 r2 g2 => ?_
  refine h2 F S2 σ H2 G2 u _ r2 e3 _ fun H3 G3 r3 g3 => ?_
  have g := (g1.trans g2).trans g3
  have hx := op_get r3 (q1.mono (g2.trans g3)) e4
  cases x with
  | tuple xs =>
    cases e5
    have hR : Rp K G3 v (.tuple xs) := by
      rcases hx with h | ⟨_, _, _, h, _⟩
      · exact h
      · cases h
    cases hR with
    | @tup a vs _ ht ha =>
      refine .inl ⟨_, _, rfl, r3.gh.st ht, fun hw => k _ H3 G3 r3 g ?_, fun hw p hp => ?_⟩
      · have h2 := ha.cut l u
        rw [whole_cut hw] at h2
        exact .tup ht h2
      · have px := PX.laid (o := .tup (cutV vs l u)) r3.gh hp
        exact k _ _ _ (r3.ext px) (g.trans px.gg) (.tup (.inl (.inl upd_same)) ((ha.cut l u).mono px.gg))
  | list xs =>
    cases e5
    obtain ⟨a, vs, rfl, q2, q3⟩ := hx.lst r3.gh
    refine .inr ⟨a, vs, rfl, .inl (.inl q2), fun p hp => ?_⟩
    have px := PX.laid (o := .lst (cutV vs l u)) r3.gh hp
    exact k _ _ _ (r3.ext px) (g.trans px.gg) (.lst upd_same ((q3.cut l u).mono px.gg))
  | _ => cases e5
theorem sem_sliceL (ha : SemE K te fe) (h1 : SemO K tl fl) (h2 : SemO K th fh) : SemL K (tSl (rSl2 K) te tl th) (sSliceL fe fl fh) := fun F S σ H G o S' r ef Q k => by
  obtain ⟨⟨o1, S1⟩, e1, ef⟩ := Option.bind_eq_some_iff.mp ef
  obtain ⟨⟨l, S2⟩, e2, ef⟩ := Option.bind_eq_some_iff.mp ef
  obtain ⟨⟨u, S3⟩, e3, ef⟩ := Option.bind_eq_some_iff.mp ef
  obtain ⟨x, e4, ef⟩ := Option.bind_eq_some_iff.mp ef
  obtain ⟨z, e5, ef⟩ := Option.map_eq_some_iff.mp ef
  cases ef
  refine ha F S σ H G o1 S1 r e1 _ fun v H1 G1 r1 g1 q1 => ?_
  refine h1 F S1 σ H1 G1 l S2 r1 e2 _ fun H2 G2 r2 g2 => ?_
  refine h2 F S2 σ H2 G2 u _ r2 e3 _ fun H3 G3 r3 g3 => ?_
  have g := (g1.trans g2).trans g3
  have hx := op_get r3 (q1.mono (g2.trans g3)) e4
  cases x with
  | list xs =>
    cases e5
    obtain ⟨a, vs, rfl, q2, q3⟩ := hx.lst r3.gh
    refine .inr ⟨a, vs, rfl, .inl (.inl q2), fun p hp => ?_⟩
    obtain ⟨f0, fg, fa⟩ := r3.fresh hp
    have px := PX.side (o := .lst (cutV vs l u)) r3.gh hp
    exact k _ _ _ _ (r3.ext px) g f0 fg fa upd_same (q3.cut l u)
  | _ => cases e5
theorem se_slice (hK : X.K = K) (he : SE X K e te fe) (h1 : SO X K lo tl fl) (h2 : SO X K hi th fh) : SE X K (.Subscript e (.Slice lo hi none p2) pos) (tSl (rSl2 K) te tl th) (sSlice fe fl fh) := ⟨pe_slice (sl_2 hK) he.p h1.p h2.p, sem_slice he.ok h1.ok h2.ok⟩
theorem sl_slice (hK : X.K = K) (he : SE X K e te fe) (h1 : SO X K lo tl fl) (h2 : SO X K hi th fh) : SL X K (.Subscript e (.Slice lo hi none p2) pos) (tSl (rSl2 K) te tl th) (sSliceL fe fl fh) := ⟨pe_slice (sl_2 hK) he.p h1.p h2.p, sem_sliceL he.ok h1.ok h2.ok⟩
def dRev : PyData → Option PyData
  | .tuple xs => some (.tuple xs.reverse)
  | .list xs => some (.list xs.reverse)
  | _ => none
theorem sem_rev (ha : SemE K te fe) : SemE K (tRevA K te) (sUn dRev fe) := fun F S σ H G o S' r ef Q k => by
  obtain ⟨⟨o1, S1⟩, e1, ef⟩ := Option.bind_eq_some_iff.mp ef
  obtain ⟨x, e4, ef⟩ := Option.bind_eq_some_iff.mp ef
  obtain ⟨z, e5, ef⟩ := Option.map_eq_some_iff.mp ef
  cases ef
  refine ha F S σ H G o1 _ r e1 _ fun v H3 G3 r3 g q1 => ?_
  have hx := op_get r3 q1 e4
  cases x with
  | tuple xs =>
    cases e5
    obtain ⟨a, vs, rfl, q2, q3⟩ := hx.tup r3.gh
    refine ⟨a, vs, rfl, .inr ⟨q2, fun p hp => ?_⟩⟩
    have px := PX.laid (o := .tup vs.reverse) r3.gh hp
    exact k _ _ _ (r3.ext px) (g.trans px.gg) (.tup (.inl (.inl upd_same)) (q3.reverse.mono px.gg))
  | list xs =>
    cases e5
    obtain ⟨a, vs, rfl, q2, q3⟩ := hx.lst r3.gh
    refine ⟨a, vs, rfl, .inl ⟨.inl (.inl q2), fun p hp => ?_⟩⟩
    have px := PX.laid (o := .lst vs.reverse) r3.gh hp
    exact k _ _ _ (r3.ext px) (g.trans px.gg) (.lst upd_same (q3.reverse.mono px.gg))
  | _ => cases e5
theorem se_rev {kk : Nat} {p1 p3 p4 : Pos} (hK : X.K = K) (he : SE X K e te fe) : SE X K (.Subscript e (.Slice none none (some (.UnaryOp .USub (.Constant (.int 1) kk p1) p3)) p4) pos) (tRevA K te) (sUn dRev fe) := by
  subst hK
  exact ⟨pe_revA he.p, sem_rev he.ok⟩
end
end DL

set_option Elab.async false
set_option linter.all false
set_option maxRecDepth 100000
set_option maxHeartbeats 4000000
/-! DL, part 9: t * k of any kind, sorted(set(t)), repr. -/
namespace DL
open PySem PySem.Spec PyProof.Rows L2

theorem tuple_mulS (l : Addr) (items : Array Value) (n : Nat) (dd : Option Addr) (sl : Array (Option Value)) (x : Int) (u : Tok) (c0 : (decide (x < -(2 ^ 63)) || decide (x ≥ 2 ^ 63)) = false) (c1 : (items.isEmpty || x == 1) = true) :
    Meets (Builtin.«tuple.__mul__» ⟨[.ref l, .int x u], []⟩) (fun _ R s => s.heap.get? l = some { cls := .type "tuple", dict := dd, data := .seq items n, slots := sl } ∧
      R (.ok (.ret (Value.ref l))) s) :=
  .of_wp fun prog w A R s h => by
    obtain ⟨hp, g, d, tk, os⟩ := s
    obtain ⟨hl, h⟩ := h
    have f1 := AutoSeq1.idx_int
    wp_walk using wpAny_loadPart' hl
    repeat (first
      | (refine wpAny_ite_false (decide_eq_false (by rw [c0]; exact Bool.false_ne_true)) ?_; wp_walk using wpAny_loadPart' hl)
      | (refine wpAny_ite_true (decide_eq_true c1) ?_; wp_walk using wpAny_loadPart' hl))
    exact ⟨_, rfl, h⟩
theorem tuple_mulE (l : Addr) (items : Array Value) (n : Nat) (dd : Option Addr) (sl : Array (Option Value)) (x : Int) (u : Tok) (c0 : (decide (x < -(2 ^ 63)) || decide (x ≥ 2 ^ 63)) = false) (c1 : (items.isEmpty || x == 1) = false) (c2 : (decide (x ≤ 0) || items.isEmpty) = true) :
    Meets (Builtin.«tuple.__mul__» ⟨[.ref l, .int x u], []⟩) (fun _ R s => s.heap.get? l = some { cls := .type "tuple", dict := dd, data := .seq items n, slots := sl } ∧
      R (.ok (.ret (Value.ref s.heap.objs.size))) { s with heap := s.heap.push { cls := Value.type "tuple", data := Data.seq #[] }, toks := s.toks }) :=
  .of_wp fun prog w A R s h => by
    obtain ⟨hp, g, d, tk, os⟩ := s
    obtain ⟨hl, h⟩ := h
    have f1 := AutoSeq1.idx_int
    wp_walk using wpAny_loadPart' hl
    repeat (first
      | (refine wpAny_ite_false (decide_eq_false (by rw [c0]; exact Bool.false_ne_true)) ?_; wp_walk using wpAny_loadPart' hl)
      | (refine wpAny_ite_false (decide_eq_false (by rw [c1]; exact Bool.false_ne_true)) ?_; wp_walk using wpAny_loadPart' hl)
      | (refine wpAny_ite_true (decide_eq_true c2) ?_; wp_walk using wpAny_loadPart' hl))
    exact ⟨_, rfl, h⟩

def rRepS (K : PySem.W.Frag) : R2 := fun x y H Q => ∃ l k xs, x = .ref l ∧ y = .int k ∧ SqT K H l xs ∧ -(2 ^ 62) ≤ k ∧ k < 2 ^ 62 ∧ (xs = [] ∨ k = 1) ∧ Q (.ref l) H
def rRepE (K : PySem.W.Frag) : R2 := fun x y H Q => ∃ l k xs, x = .ref l ∧ y = .int k ∧ SqT K H l xs ∧ -(2 ^ 62) ≤ k ∧ k ≤ 0 ∧ xs ≠ [] ∧ ∀ p, H p = none → Q (.ref p) (upd H p (.tup []))
section
variable {X : Cx} {K : PySem.W.Frag}
theorem op_repS : L2.OpR X (binaryOp .Mult) (rRepS X.K) := by
  intro pins s σ H x y v u Q I rx ry h
  obtain ⟨l, k, xs, rfl, rfl, hT, h1, h2, h3, q⟩ := h
  cases rx
  obtain ⟨t, rfl⟩ := ry
  obtain ⟨its, r, ⟨⟨cls, dd, data, sl⟩, ho, hc, n, hd⟩, hs⟩ := I.tuple hT
  simp only at hc hd
  subst hc hd
  have hle : its.length = xs.length := r.length.symm
  have c0 : (decide (k < -(2 ^ 63)) || decide (k ≥ 2 ^ 63)) = false := by
    rw [decide_eq_false (by omega), decide_eq_false (by omega)] <;> rfl
  have c1 : (its.toArray.isEmpty || k == 1) = true := by
    rcases h3 with h3 | h3
    · subst h3
      have : its = [] := List.eq_nil_of_length_eq_zero (by simpa using hle)
      subst this; rfl
    · subst h3; simp
  exact wpAny_binaryOp_repeat_ref (T := "tuple") (U := "int") (by decide) ⟨_, ho, rfl⟩ (fun s' => typeIs_int s' k t) noFill_tuple_mul F.fills_int_mul F.slot_int_rmul repeat_tuple F.slot_int_index.lookup
    (call_meets F.slot_int_rmul (typeIs_int s k t) F.entry_int_rmul (F.args_int_rmul_2 _ _) (int_rmul_tuple k t l its.toArray n dd sl)
      ⟨ho, rfl, ⟨_, ho, rfl⟩, call_meets F.slot_tuple_mul ⟨_, ho, rfl⟩ F.entry_tuple_mul (F.args_tuple_mul_2 _ _) (tuple_mulS l its.toArray n dd sl k t c0 c1) ⟨ho, .ref l, H, I, rfl, q⟩⟩)
theorem op_repE : L2.OpR X (binaryOp .Mult) (rRepE X.K) := by
  intro pins s σ H x y v u Q I rx ry h
  obtain ⟨l, k, xs, rfl, rfl, hT, h1, h2, h3, q⟩ := h
  cases rx
  obtain ⟨t, rfl⟩ := ry
  obtain ⟨its, r, ⟨⟨cls, dd, data, sl⟩, ho, hc, n, hd⟩, hs⟩ := I.tuple hT
  simp only at hc hd
  subst hc hd
  have hle : its.length = xs.length := r.length.symm
  have hi : its.toArray.isEmpty = false := by
    cases its with
    | nil => exact absurd (List.eq_nil_of_length_eq_zero hle.symm) h3
    | cons a b => rfl
  have c0 : (decide (k < -(2 ^ 63)) || decide (k ≥ 2 ^ 63)) = false := by
    rw [decide_eq_false (by omega), decide_eq_false (by omega)] <;> rfl
  have c1 : (its.toArray.isEmpty || k == 1) = false := by
    rw [hi, Bool.false_or]
    exact beq_eq_false_iff_ne.mpr (by omega)
  have c2 : (decide (k ≤ 0) || its.toArray.isEmpty) = true := by
    rw [hi, Bool.or_false]
    exact decide_eq_true h2
  refine wpAny_binaryOp_repeat_ref (T := "tuple") (U := "int") (by decide) ⟨_, ho, rfl⟩ (fun s' => typeIs_int s' k t) noFill_tuple_mul F.fills_int_mul F.slot_int_rmul repeat_tuple F.slot_int_index.lookup
    (call_meets F.slot_int_rmul (typeIs_int s k t) F.entry_int_rmul (F.args_int_rmul_2 _ _) (int_rmul_tuple k t l its.toArray n dd sl)
      ⟨ho, rfl, ⟨_, ho, rfl⟩, call_meets F.slot_tuple_mul ⟨_, ho, rfl⟩ F.entry_tuple_mul (F.args_tuple_mul_2 _ _) (tuple_mulE l its.toArray n dd sl k t c0 c1 c2) ⟨ho, ?_⟩⟩)
  refine ⟨.ref s.heap.objs.size, _, I.laid (t' := s.toks) (o := .tup []) (fun b ob q => Heap.get?_push_of_some _ q) (Nat.le_refl _) ?_, rfl, q _ (I.hok.fresh (Nat.le_refl _))⟩
  exact ⟨by show 0 ≤ sizeLine; decide, [], .nil, IsTup.new _ _⟩
/-- x * k: ints, a tuple or a list by an int -/
noncomputable def dMulX (x y : PyData) : Option PyData := match x, y with
  | .int i, .int j => if CMul i j then some (.int (i * j)) else none
  | .tuple xs, .int k => if -1000 ≤ k ∧ k ≤ 1000 ∧ xs.length ≤ 1000 then some (.tuple (List.replicate k.toNat xs).flatten) else none
  | .list xs, .int k => if 0 ≤ k ∧ k ≤ 1000 ∧ xs.length ≤ 1000 then some (.list (List.replicate k.toNat xs).flatten) else none
  | _, _ => none
def rMulX (K : PySem.W.Frag) : R2 := fun x y H Q => rMulA K x y H Q ∨ rRepS K x y H Q ∨ rRepE K x y H Q
theorem opMulX (hK : X.K = K) : L2.OpR X (binaryOp .Mult) (rMulX K) := by subst hK; exact (opMul rfl).or (op_repS.or op_repE)
theorem vMulX : V2 K (rMulX K) dMulX := fun G H v w x y z e rx ry q Q k => by
  have old : ∀ z', dMul x y = some z' → (z' = z) → rMulX K v w H Q := fun z' h1 h2 => .inl (vMul G H v w x y z' e rx ry h1 Q (by rw [h2]; exact k))
  unfold dMulX at q
  split at q
  · exact old _ q rfl
  · rename_i xs j
    split at q
    · rename_i hc
      cases q
      have hR : Rp K G v (.tuple xs) := by
        rcases rx with h | ⟨_, _, _, h, _⟩
        · exact h
        · cases h
      cases hR with
      | tup ht ha =>
        have hj : w = .int j := ry.int
        subst hj
        by_cases h0 : xs = []
        · subst h0
          cases ha
          refine .inr (.inl ⟨_, j, [], rfl, rfl, e.st ht, by omega, by omega, .inl rfl, k _ H G (.refl e) (.tup ht ?_)⟩)
          have : ∀ n : Nat, (List.replicate n ([] : List PyData)).flatten = [] := fun n => by induction n with
            | zero => rfl
            | succ n ih => rw [List.replicate_succ, List.flatten_cons, ih]; rfl
          rw [this]; exact .nil
        · by_cases h1 : j = 1
          · subst h1
            refine .inr (.inl ⟨_, 1, _, rfl, rfl, e.st ht, by omega, by omega, .inr rfl, k _ H G (.refl e) (.tup ht ?_)⟩)
            have : (List.replicate (1 : Int).toNat xs).flatten = xs := by simp
            rw [this]; exact ha
          · by_cases h2 : 2 ≤ j
            · exact old _ (by unfold dMul; simp only; rw [if_pos ⟨h0, h2, hc.2.1, hc.2.2⟩]) rfl
            · refine .inr (.inr ⟨_, j, _, rfl, rfl, e.st ht, by omega, by omega, fun q => h0 ?_, fun p hp => ?_⟩)
              · have := ha.length; rw [q] at this; exact List.eq_nil_of_length_eq_zero this.symm
              · have px := PX.laid (o := .tup []) e hp
                refine k _ _ _ px (.tup (.inl (.inl upd_same)) ?_)
                have : j.toNat = 0 := by omega
                rw [this]; exact .nil
    · cases q
  · exact old _ q rfl
  · cases q

def insU (x : Int) : List Int → List Int
  | [] => [x]
  | y :: r => if x < y then x :: y :: r else if x = y then y :: r else y :: insU x r
def setI : List Int → List Int
  | [] => []
  | x :: r => insU x (setI r)
theorem insU_mem (x k : Int) : ∀ l : List Int, k ∈ insU x l ↔ k = x ∨ k ∈ l
  | [] => by simp [insU]
  | y :: r => by
    unfold insU
    split
    · simp
    · split
      · rename_i h; subst h
        simp
      · simp only [List.mem_cons, insU_mem x k r]
        constructor
        · rintro (h | h | h)
          · exact .inr (.inl h)
          · exact .inl h
          · exact .inr (.inr h)
        · rintro (h | h | h)
          · exact .inr (.inl h)
          · exact .inl h
          · exact .inr (.inr h)
theorem setI_mem (k : Int) : ∀ l : List Int, k ∈ setI l ↔ k ∈ l
  | [] => by simp [setI]
  | x :: r => by
    show k ∈ insU x (setI r) ↔ _
    rw [insU_mem, setI_mem k r, List.mem_cons]
theorem insU_sorted (x : Int) : ∀ l : List Int, l.Pairwise (· < ·) → (insU x l).Pairwise (· < ·)
  | [], _ => by simp [insU]
  | y :: r, h => by
    have h' := List.pairwise_cons.mp h
    unfold insU
    split
    · rename_i hxy
      refine List.pairwise_cons.mpr ⟨fun z hz => ?_, h⟩
      rcases List.mem_cons.mp hz with rfl | hz
      · exact hxy
      · exact Int.lt_trans hxy (h'.1 z hz)
    · split
      · exact h
      · rename_i hxy hne
        refine List.pairwise_cons.mpr ⟨fun z hz => ?_, insU_sorted x r h'.2⟩
        rcases (insU_mem x z r).mp hz with rfl | hz
        · omega
        · exact h'.1 z hz
theorem setI_sorted : ∀ l : List Int, (setI l).Pairwise (· < ·)
  | [] => .nil
  | x :: r => insU_sorted x _ (setI_sorted r)
theorem strict_unique : ∀ {l m : List Int}, l.Pairwise (· < ·) → m.Pairwise (· < ·) → (∀ k, k ∈ l ↔ k ∈ m) → l = m
  | [], [], _, _, _ => rfl
  | [], y :: m, _, _, h => by have := (h y).mpr (by simp); simp at this
  | x :: l, [], _, _, h => by have := (h x).mp (by simp); simp at this
  | x :: l, y :: m, h1, h2, h => by
    have a := List.pairwise_cons.mp h1
    have b := List.pairwise_cons.mp h2
    have e : x = y := by
      have m1 : x ∈ y :: m := (h x).mp (by simp)
      have m2 : y ∈ x :: l := (h y).mpr (by simp)
      rcases List.mem_cons.mp m1 with q | q
      · exact q
      · rcases List.mem_cons.mp m2 with q' | q'
        · exact q'.symm
        · have := b.1 x q
          have := a.1 y q'
          omega
    subst e
    rw [strict_unique a.2 b.2 fun k => ?_]
    constructor
    · intro hk
      rcases List.mem_cons.mp ((h k).mp (List.mem_cons_of_mem _ hk)) with rfl | q
      · have := a.1 k hk; omega
      · exact q
    · intro hk
      rcases List.mem_cons.mp ((h k).mpr (List.mem_cons_of_mem _ hk)) with rfl | q
      · have := b.1 k hk; omega
      · exact q

theorem insU_len (x : Int) : ∀ l : List Int, x ∉ l → (insU x l).length = l.length + 1
  | [], _ => rfl
  | y :: r, h => by
    have hy : x ≠ y := fun e => h (by simp [e])
    have hr : x ∉ r := fun e => h (List.mem_cons_of_mem _ e)
    unfold insU
    by_cases h1 : x < y
    · rw [if_pos h1]; rfl
    · rw [if_neg h1, if_neg hy]
      simp [insU_len x r hr]
theorem setI_len : ∀ l : List Int, l.Nodup → (setI l).length = l.length
  | [], _ => rfl
  | x :: r, h => by
    have h' := List.nodup_cons.mp h
    show (insU x (setI r)).length = _
    rw [insU_len x (setI r) fun e => h'.1 ((setI_mem x r).mp e), setI_len r h'.2]
    rfl
theorem setI_count {l ns : List Int} (h : l.Nodup) (hm : ∀ k, k ∈ l ↔ k ∈ ns) : l.length = (setI ns).length := by
  rw [← setI_len l h, strict_unique (setI_sorted l) (setI_sorted ns) fun k => by rw [setI_mem, setI_mem, hm k]]
/-! ### sorted(set(x)) -/
def rSetI (w : World) (K : PySem.W.Frag) : List V → Hp → VK → Prop := fun vs H Q => ∃ (a : Addr) (ns : List Int), vs = [V.ref a] ∧ SqT K H a (ns.map V.int) ∧ ns.length ≤ 1000 ∧
  ∀ p : Addr, H p = none → Q (.ref p) (upd H p (SetO w p (fun j => decide (j ∈ ns)) (setI ns).length))
theorem cr_setI (hc : X.calm = true) : CallR X (.type "set") (rSetI X.w X.K) := by
  intro pins s σ H vs us Q I r h
  obtain ⟨a, ns, rfl, ha, hl, q⟩ := h
  rw [Vals.ref1 r]
  obtain ⟨its, rv, p, hz⟩ := I.tuple ha
  refine call_set_tupI ns (I.ok.hd hc) p (intsAre_of rv) (Nat.lt_of_le_of_lt (Nat.succ_le_succ hl) (by unfold scanBound; omega)) fun h' tk c hR hcn hk => ?_
  have hc2 : c = (setI ns).length := by
    obtain ⟨o, es, ep, t, _, _, _, _, nd, mem, _, _, hn, _⟩ := id hR
    have e := setI_count (ns := ns) nd fun k => by rw [← mem k]; simp
    rw [← e]; simp [hn]
  subst hc2
  exact ⟨.ref s.heap.objs.size, upd H s.heap.objs.size (SetO X.w s.heap.objs.size (fun j => decide (j ∈ ns)) (setI ns).length), I.laid (t' := tk) hk (Nat.le_refl _) (setO_new hR), rfl, q _ (I.hok.fresh (Nat.le_refl _))⟩
end
def dSetL : List PyData → Option (List PyData)
  | [.tuple xs] => (dInts xs).bind fun ns => if ns.length ≤ 1000 ∧ (setI ns).length < 64 then some ((setI ns).map .int) else none
  | _ => none
section
variable {X : Cx} {K : PySem.W.Frag} {e : Expr} {tA : TA} {fs : AS}
theorem sem_sortSet {w : World} (ha : SemA K tA fs) : SemL K (tCB (rSortedSet w) (tCons (tCB (rSetI w K) tA) tNil)) (sCBL dSetL fs) := by
  intro F S σ H G o S' r ef Q k
  obtain ⟨⟨os, S1⟩, e1, ef⟩ := Option.bind_eq_some_iff.mp ef
  obtain ⟨xs, e3, ef⟩ := Option.bind_eq_some_iff.mp ef
  obtain ⟨z, e5, ef⟩ := Option.map_eq_some_iff.mp ef
  cases ef
  refine ha F S σ H G os _ r e1 _ fun vs H1 G1 r1 g1 h1 => ?_
  have hv := ops_get r1 h1 e3
  unfold dSetL at e5
  split at e5
  · obtain ⟨ns, e6, e7⟩ := Option.bind_eq_some_iff.mp e5
    split at e7
    · rename_i hl
      cases e7
      cases hv with
      | cons rv t =>
        cases t
        obtain ⟨a, ws, rfl, q2, q3⟩ := rv.tup r1.gh
        have hx := dInts_some e6
        subst hx
        have hw := q3.ints
        subst hw
        refine ⟨a, ns, rfl, q2, hl.1, fun p hp => ?_⟩
        show rSortedSet w [V.ref p] _ Q
        refine ⟨p, _, (setI ns).length, rfl, upd_same, hl.2, fun ms q hs hm hlm hq => ?_⟩
        have hms : ms = setI ns := strict_unique hs (setI_sorted ns) fun k => by rw [hm k, setI_mem]; simp
        subst hms
        have p1 := PX.side (o := SetO w p (fun j => decide (j ∈ ns)) (setI ns).length) r1.gh hp
        have r2 := r1.ext p1
        obtain ⟨f0, fg, fa⟩ := r2.fresh hq
        have p2 := PX.side (o := .lst ((setI ns).map V.int)) r2.gh hq
        exact k q _ _ _ (r2.ext p2) g1 f0 fg fa upd_same (RpAll.of_ints _)
    · cases e7
  · cases e5
theorem sl_sortSet {p1 p2 q1 q2 : Pos} (hK : X.K = K) (hc : X.calm = true) (hm1 : X.mg "sorted" = none) (hm2 : X.mg "set" = none) (hb1 : bootBuiltins "sorted" = some (.builtin "sorted")) (hb2 : bootBuiltins "set" = some (.type "set")) (ha : SA X K [e] tA fs) (hg1 : Gl X "sorted" := by rfl) (hg2 : Gl X "set" := by rfl)
    (he : starEach [e] X.env = (false, eval e X.env) :: starEach [] X.env := by rfl) (hpl : (backTo q2 (starEach [] X.env)).any (·.1) = false := by rfl)
    (he2 : starEach [.Call (.Name "set" p2) [e] [] q2] X.env = (false, eval (.Call (.Name "set" p2) [e] [] q2) X.env) :: starEach [] X.env := by rfl) (hpl2 : (backTo q1 (starEach [] X.env)).any (·.1) = false := by rfl) :
    SL X K (.Call (.Name "sorted" p1) [.Call (.Name "set" p2) [e] [] q2] [] q1) (tCB (rSortedSet X.w) (tCons (tCB (rSetI X.w K) tA) tNil)) (sCBL dSetL fs) := by
  subst hK
  refine ⟨?_, sem_sortSet ha.ok⟩
  exact pe_callB (cr_sortedSet hc) hg1 hm1 hb1 (pa_cons (pe_callTy (cr_setI hc) hg2 hm2 hb2 ha.p (by decide) (by decide) he hpl) pa_nil he2) (by decide) (by decide) he2 hpl2
end

/-! ### repr -/
section
variable {X : Cx} {K : PySem.W.Frag} {pins : List (Addr × Obj)} {σ : L2.St} {H : Hp} {s : Shared}
mutual
theorem readsN (I : Inv X pins σ H s) : ∀ {d : PyData} {v : V} {u : Value}, Rp X.K H v d → d.hasDict = false → RelV v u → ∃ as, Reads s.heap u d as
  | _, _, _, .non, _, r => by cases r; exact ⟨_, Reads.none⟩
  | _, _, _, .bl b, _, r => by cases r; exact ⟨_, Reads.bool b⟩
  | _, _, _, .int i, _, r => by obtain ⟨t, rfl⟩ := r; exact ⟨_, Reads.int i t⟩
  | _, _, _, .str x, _, r => by obtain ⟨t, rfl⟩ := r; exact ⟨_, Reads.str x t⟩
  | _, _, _, .lst h1 ha, c, r => by
    cases r
    obtain ⟨its, rv, ⟨o, n, ho, hc, _, hd⟩, _⟩ := I.list (.inl (.inl h1))
    obtain ⟨as, hr⟩ := readsNA I ha (by simpa [PyData.hasDict] using c) rv
    exact ⟨_, Reads.list ho hc hd hr⟩
  | _, _, _, .tup h1 ha, c, r => by
    cases r
    obtain ⟨its, rv, ⟨o, ho, hc, n, hd⟩, _⟩ := I.tuple h1
    obtain ⟨as, hr⟩ := readsNA I ha (by simpa [PyData.hasDict] using c) rv
    exact ⟨_, Reads.tuple ho hc hd hr⟩
  | _, _, _, .dic _ _, c, r => by simp [PyData.hasDict] at c
  | _, _, _, .scr _ _, c, r => by simp [PyData.hasDict] at c
theorem readsNA (I : Inv X pins σ H s) : ∀ {ds : List PyData} {vs : List V} {us : List Value}, RpAll X.K H vs ds → PyData.hasDictAll ds = false → Vals vs us → ∃ as, ReadsAll s.heap us ds as
  | _, _, _, .nil, _, r => by cases r; exact ⟨_, ReadsAll.nil⟩
  | _, _, _, .cons h1 h2, c, r => by
    have c' := Bool.or_eq_false_iff.mp (show (_ || _) = false by simpa [PyData.hasDictAll] using c)
    cases r with
    | cons r1 r2 =>
      obtain ⟨as, q1⟩ := readsN I h1 c'.1 r1
      obtain ⟨bs, q2⟩ := readsNA I h2 c'.2 r2
      exact ⟨_, ReadsAll.cons q1 q2⟩
end
mutual
/-- empty dicts within tuples -/
def eDict : PyData → Bool
  | .none => true
  | .bool _ => true
  | .int _ => true
  | .str _ => true
  | .tuple xs => eDictAll xs
  | .dict kvs => kvs.isEmpty
  | .list _ => false
def eDictAll : List PyData → Bool
  | [] => true
  | x :: xs => eDict x && eDictAll xs
end
mutual
theorem readsE (I : Inv X pins σ H s) : ∀ {d : PyData} {v : V} {u : Value}, Rp X.K H v d → eDict d = true → RelV v u → ∃ as, Reads s.heap u d as ∧ sysModules ∉ as
  | _, _, _, .non, _, r => by cases r; exact ⟨_, Reads.none, by simp⟩
  | _, _, _, .bl b, _, r => by cases r; exact ⟨_, Reads.bool b, by simp⟩
  | _, _, _, .int i, _, r => by obtain ⟨t, rfl⟩ := r; exact ⟨_, Reads.int i t, by simp⟩
  | _, _, _, .str x, _, r => by obtain ⟨t, rfl⟩ := r; exact ⟨_, Reads.str x t, by simp⟩
  | _, _, _, .lst h1 ha, c, r => by simp [eDict] at c
  | _, _, _, .tup h1 ha, c, r => by
    cases r
    obtain ⟨its, rv, ⟨o, ho, hc, n, hd⟩, _⟩ := I.tuple h1
    obtain ⟨as, hr, hs⟩ := readsEA I ha (by simpa [eDict] using c) rv
    exact ⟨_, Reads.tuple ho hc hd hr, hs⟩
  | _, _, _, .dic h1 h2, c, r => by
    cases r
    cases h2 with
    | nil =>
      obtain ⟨z, hn, vs, rel, dd⟩ := dk_rd I.hok h1
      cases rel
      obtain ⟨o, es, ep, ho, hex, hd, hl⟩ := dd
      have he : es.toList = [] := by cases q : es.toList with
        | nil => rfl
        | cons e r => have := hl.2.1; rw [q] at this; cases this
      have hc : o.cls = .type "dict" := hex.1
      refine ⟨_, Reads.dict ho hc hd (as := []) (bs := []) (by rw [he]; exact .nil) (by rw [he]; exact .nil), ?_⟩
      intro q
      simp only [List.append_nil, List.mem_singleton] at q
      rw [← q] at hn
      simp at hn
    | cons _ _ => simp [eDict] at c
  | _, _, _, .scr _ _, c, r => by simp [eDict] at c
theorem readsEA (I : Inv X pins σ H s) : ∀ {ds : List PyData} {vs : List V} {us : List Value}, RpAll X.K H vs ds → eDictAll ds = true → Vals vs us → ∃ as, ReadsAll s.heap us ds as ∧ sysModules ∉ as
  | _, _, _, .nil, _, r => by cases r; exact ⟨_, ReadsAll.nil, by simp⟩
  | _, _, _, .cons h1 h2, c, r => by
    have c' := Bool.and_eq_true_iff.mp (show (_ && _) = true by simpa [eDictAll] using c)
    cases r with
    | cons r1 r2 =>
      obtain ⟨as, q1, z1⟩ := readsE I h1 c'.1 r1
      obtain ⟨bs, q2, z2⟩ := readsEA I h2 c'.2 r2
      exact ⟨_, ReadsAll.cons q1 q2, by simp [z1, z2]⟩
end
def reprOk (d : PyData) : Bool := (!d.hasDict || eDict d) && d.showable && decide (d.shown.length ≤ 1000000) && decide (d.depth ≤ 60)
def dRepr : List PyData → Option PyData
  | [x] => if reprOk x = true then some (.str x.shown) else none
  | _ => none
def rRepr (K : PySem.W.Frag) : List V → Hp → VK → Prop := fun xs H Q => ∃ v d, xs = [v] ∧ Rp K H v d ∧ reprOk d = true ∧ Q (.str d.shown) H
theorem crRepr (hK : X.K = K) (hg : X.A.guards = some []) {k : Nat} (hr : Room k X.A) : CallR X (.builtin "repr") (rRepr K) := by
  subst hK
  intro pins s σ H xs us Q I r h
  obtain ⟨v, d, rfl, hd, ok, q⟩ := h
  have ok : (((!d.hasDict || eDict d) && d.showable) && decide (d.shown.length ≤ 1000000) && decide (d.depth ≤ 60)) = true := ok
  rw [Bool.and_eq_true, Bool.and_eq_true, Bool.and_eq_true, decide_eq_true_eq, decide_eq_true_eq] at ok
  obtain ⟨⟨⟨o1, o2⟩, o3⟩, o4⟩ := ok
  have hu : X.A.units + (d.depth + 1) < cLine := by have := hr.units; omega
  have hsz : d.shown.length ≤ sizeLine := Nat.le_trans o3 (by decide)
  have hrd : ∀ u, RelV v u → ∃ as, Reads s.heap u d as ∧ (d.hasDict = true → sysModules ∉ as) := fun u ru => by
    by_cases hdc : d.hasDict = true
    · rw [hdc] at o1
      obtain ⟨as, h1, h2⟩ := readsE I hd (by simpa using o1) ru
      exact ⟨as, h1, fun _ => h2⟩
    · obtain ⟨as, h1⟩ := readsN I hd (by simpa using hdc) ru
      exact ⟨as, h1, fun z => absurd z hdc⟩
  cases r with
  | cons r t =>
    cases t
    obtain ⟨as, h1, h2⟩ := hrd _ r
    cases h1 with
    | none => exact PySem.P.repr_of_none ⟨.str _, H, I.tok _, ⟨_, rfl⟩, by simpa [PyData.shown] using q⟩
    | bool b => exact PySem.P.repr_of_bool ⟨.str _, H, I.tok _, ⟨_, rfl⟩, by simpa [PyData.shown] using q⟩
    | int i t => exact PySem.P.repr_of_int (by simpa [PyData.showable] using o2) ⟨.str _, H, I.tok _, ⟨_, rfl⟩, by simpa [PyData.shown] using q⟩
    | str x t => exact PySem.P.repr_of_str ⟨.str _, H, I.tok _, ⟨_, rfl⟩, by simpa [PyData.shown] using q⟩ (by simpa [PyData.shown] using hsz)
    | list a b c e => exact repr_of_reads' (.list a b c e) o2 h2 hg hu (fun _ _ z => z) (fun h' u tk hk => ⟨.str _, H, I.kept hk, ⟨_, rfl⟩, q⟩) hsz
    | tuple a b c e => exact repr_of_reads' (.tuple a b c e) o2 h2 hg hu (fun _ _ z => z) (fun h' u tk hk => ⟨.str _, H, I.kept hk, ⟨_, rfl⟩, q⟩) hsz
    | dict a b c e f => exact repr_of_reads' (.dict a b c e f) o2 h2 hg hu (fun _ _ z => z) (fun h' u tk hk => ⟨.str _, H, I.kept hk, ⟨_, rfl⟩, q⟩) hsz
theorem vRepr : VN K (rRepr K) dRepr := fun G H vs xs z e rs q Q k => by
  unfold dRepr at q
  split at q
  · split at q
    · rename_i hc
      cases q
      cases rs with
      | cons r t => cases t; exact ⟨_, _, rfl, r.rp e, hc, k _ H G (.refl e) (.str _)⟩
    · cases q
  · cases q
end
end DL

set_option Elab.async false
set_option linter.all false
set_option maxRecDepth 100000
set_option maxHeartbeats 4000000
/-! DL, part 10: methods of lists, stores, statements, comprehensions for the text. -/
namespace DL
open PySem PySem.Spec PyProof.Rows L2

/-! ### values of any kind -/
abbrev VS := List SD → Option (SD × List SD)
def SemV (K : PySem.W.Frag) (t : TE) (f : VS) : Prop := ∀ F S σ H G s S', SR K F S σ H G → f S = some (s, S') → ∀ Q : VK, (∀ v H' G', SR K F S' σ H' G' → Ex G G' → s ≠ .un → (∀ xs, s ≠ .own true xs) → ResR K F S' σ H' G' v s → Q v H') → t σ H Q
structure SV (X : Cx) (K : PySem.W.Frag) (e : Expr) (t : TE) (f : VS) : Prop where
  p : PE X e t
  ok : SemV K t f
def vD (fd : DS) : VS := fun S => (fd S).map fun p => (.d p.1, p.2)
def vL (fl : LS) : VS := fun S => (fl S).map fun p => (.own false p.1, p.2)
section
variable {K : PySem.W.Frag} {te ta : TE} {fd : DS} {fl : LS} {fv fw : VS} {F : Fr} {S S' : List SD} {σ σ' : L2.St} {H G H' G' : Hp} {X : Cx} {e : Expr}
theorem sem_vD (h : SemD K te fd) : SemV K te (vD fd) := fun F S σ H G s S' r ef Q k => by
  obtain ⟨⟨x, S1⟩, e1, e2⟩ := Option.map_eq_some_iff.mp ef
  cases e2
  exact h F S σ H G x _ r e1 Q fun v H1 G1 r1 g1 h1 => k v H1 G1 r1 g1 (by simp) (by simp) h1
theorem sem_vL (h : SemL K te fl) : SemV K te (vL fl) := fun F S σ H G s S' r ef Q k => by
  obtain ⟨⟨x, S1⟩, e1, e2⟩ := Option.map_eq_some_iff.mp ef
  cases e2
  exact h F S σ H G x _ r e1 Q fun p vs H1 G1 r1 g1 f0 fg fa hh ha => k (.ref p) H1 G1 r1 g1 (by simp) (by simp) ⟨p, vs, rfl, f0, fg, fa, hh, ha⟩
theorem sv_d (h : SDt X K e te fd) : SV X K e te (vD fd) := ⟨h.p, sem_vD h.ok⟩
theorem sv_l (h : SL X K e te fl) : SV X K e te (vL fl) := ⟨h.p, sem_vL h.ok⟩
theorem SR.setR (r : SR K F S σ H G) (i : Nat) {v : V} {s : SD} (n1 : s ≠ .un) (n2 : ∀ xs, s ≠ .own true xs) (h : ResR K F S σ H G v s) : SR K F (S.set i s) (σ.set i (some v)) H G := by
  cases s with
  | un => exact absurd rfl n1
  | d x => exact r.setD i h
  | own b xs =>
    cases b with
    | true => exact absurd rfl (n2 xs)
    | false =>
      obtain ⟨p, vs, rfl, f0, fg, fa, hh, ha⟩ := h
      exact r.setO i fg hh ha f0 fa
def sSetV (fv : VS) (i : Nat) : SSem := fun S => (fv S).map fun p => .nx (p.2.set i p.1)
theorem sem_setV {i : Nat} (h : SemV K te fv) : SemS K (tAsg te (gName i)) (sSetV fv i) := fun F S σ H G out r e D hD => by
  obtain ⟨⟨s, S1⟩, e1, e2⟩ := Option.map_eq_some_iff.mp e
  cases e2
  exact h F S σ H G s _ r e1 _ fun v H1 G1 r1 g1 n1 n2 hr => hD _ H1 G1 (r1.setR i n1 n2 hr) g1
def sRetVS (fv : VS) : SSem := fun S => (fv S).map fun p => .rt p.1 p.2
theorem sem_retVS (h : SemV K te fv) : SemS K (tRet te) (sRetVS fv) := fun F S σ H G out r e D hD => by
  obtain ⟨⟨s, S1⟩, e1, e2⟩ := Option.map_eq_some_iff.mp e
  cases e2
  refine h F S σ H G s _ r e1 _ fun v H1 G1 r1 g1 n1 n2 hr => hD v σ H1 G1 ?_ g1
  cases s with
  | un => exact absurd rfl n1
  | d x => exact r1.pushD hr
  | own b xs =>
    cases b with
    | true => exact absurd rfl (n2 xs)
    | false =>
      obtain ⟨p, vs, rfl, f0, fg, fa, hh, ha⟩ := hr
      exact r1.pushO f0 fg fa hh ha
/-! ### a, b = x, y -/
theorem wipe_nil (σ : L2.St) : wipe σ [] = σ := rfl
/-- the second value while the first one, new, lies aside -/
def asideV : SD → VS → VS
  | .own _ _, f => fun S => (f (borGo [] 0 S)).map fun p => (p.1, unbGo [] 0 S p.2)
  | _, f => f
theorem aside_ok {s1 : SD} {v : V} (n1 : s1 ≠ .un) (n2 : ∀ xs, s1 ≠ .own true xs) (h : SemV K ta fw) (r : SR K F S σ H G) (h1 : ResR K F S σ H G v s1) {s2 : SD} (ef : asideV s1 fw S = some (s2, S')) {Q : VK}
    (k : ∀ w H' G', SR K F S' σ H' G' → Ex G G' → s2 ≠ .un → (∀ xs, s2 ≠ .own true xs) → ResR K F S' σ H' G' v s1 → ResR K F S' σ H' G' w s2 → (∀ i j, i ≠ j → SR K F ((S'.set i s1).set j s2) ((σ.set i (some v)).set j (some w)) H' G') → Q w H') : ta σ H Q := by
  cases s1 with
  | un => exact absurd rfl n1
  | d x =>
    refine h F S σ H G s2 S' r ef Q fun w H1 G1 r1 g1 m1 m2 hr => ?_
    have hx : Rp K G1 v x := Rp.mono g1 h1
    refine k w H1 G1 r1 g1 m1 m2 hx hr fun i j hij => ?_
    have r2 := r1.setD i hx
    refine r2.setR j m1 m2 ?_
    cases s2 with
    | un => exact absurd rfl m1
    | d y => exact hr
    | own b ys =>
      cases b with
      | true => exact absurd rfl (m2 ys)
      | false =>
        obtain ⟨p, vs, rfl, f0, fg, fa, hh, ha⟩ := hr
        refine ⟨p, vs, rfl, f0, fg, fun m c zs q1 q2 => ?_, hh, ha⟩
        by_cases hm : i = m
        · subst hm
          by_cases hl : i < S'.length
          · rw [List.getElem?_set_self hl] at q1; cases q1
          · rw [List.getElem?_eq_none (by simpa using Nat.le_of_not_lt hl)] at q1; cases q1
        · rw [List.getElem?_set_ne hm] at q1 q2
          exact fa m c zs q1 q2
  | own b xs =>
    cases b with
    | true => exact absurd rfl (n2 xs)
    | false =>
      obtain ⟨p, vs, rfl, f0, fg, fa, hh, ha⟩ := h1
      obtain ⟨⟨s2', S2⟩, e1, e2⟩ := Option.map_eq_some_iff.mp ef
      have es2 : s2' = s2 := congrArg Prod.fst (Option.some.inj (congrArg some e2))
      have eS' : unbGo [] 0 S S2 = S' := congrArg Prod.snd e2
      subst es2 eS'
      have r' := r.sub []
      rw [wipe_nil] at r'
      refine h (Fr.blk [] S σ H G) _ σ H G s2' S2 r' e1 Q fun w H1 G1 r1 g1 m1 m2 hr => ?_
      obtain ⟨hD, gD⟩ := r.aside r1 hh fg fa
      have r2 := r.unsub r1
      have ap2 : Apart (unbGo [] 0 S S2) σ p := apart_unb fa
      have hr1 : ResR K F (unbGo [] 0 S S2) σ H1 G1 (.ref p) (.own false xs) := ⟨p, vs, rfl, f0, gD, ap2, hD, ha.mono g1⟩
      have r3 : ∀ i, SR K F ((unbGo [] 0 S S2).set i (.own false xs)) (σ.set i (some (.ref p))) H1 G1 := fun i => r2.setO i gD hD (ha.mono g1) f0 ap2
      cases s2' with
      | un => exact absurd rfl m1
      | d y => exact k w H1 G1 r2 g1 m1 m2 hr1 hr fun i j hij => (r3 i).setD j hr
      | own c ys =>
        cases c with
        | true => exact absurd rfl (m2 ys)
        | false =>
          obtain ⟨q, ws, rfl, z0, zg, za, zh, zz⟩ := hr
          have z0 : H q = none := z0
          have y0 : F.H0 q = none := by
            cases z : F.H0 q with
            | none => rfl
            | some o => exact absurd z0 (r.live q (by rw [z]; simp))
          have ya : Apart (unbGo [] 0 S S2) σ q := fun m c zs q1 q2 => by
            rcases unbGo_own [] S S2 0 m c zs q1 with ⟨hm, _⟩ | ⟨_, ⟨us, h1⟩, _⟩
            · simp at hm
            · obtain ⟨a, _, t1, _, t3, _⟩ := r.own m c us h1
              rw [q2] at t1; cases t1
              rw [z0] at t3; cases t3
          refine k (.ref q) H1 G1 r2 g1 m1 m2 hr1 ⟨q, ws, rfl, y0, zg, ya, zh, zz⟩ fun i j hij => ?_
          refine (r3 i).setO j zg zh zz y0 fun m c zs q1 q2 => ?_
          by_cases hm : i = m
          · subst hm
            by_cases hl : i < σ.length
            · rw [List.getElem?_set_self hl] at q2
              cases q2
              rw [hh] at z0; cases z0
            · rw [List.getElem?_eq_none (by simpa using Nat.le_of_not_lt hl)] at q2; cases q2
          · rw [List.getElem?_set_ne hm] at q1 q2
            exact ya m c zs q1 q2
def sPar (i j : Nat) (fv fw : VS) : SSem := fun S => (fv S).bind fun p => (asideV p.1 fw p.2).map fun q => .nx ((q.2.set i p.1).set j q.1)
theorem sem_par {i j : Nat} (hij : i ≠ j) (h1 : SemV K te fv) (h2 : SemV K ta fw) : SemS K (tPar i j (tCons te (tCons ta tNil))) (sPar i j fv fw) := fun F S σ H G out r e D hD => by
  obtain ⟨⟨s1, S1⟩, e1, e⟩ := Option.bind_eq_some_iff.mp e
  obtain ⟨⟨s2, S2⟩, e2, e3⟩ := Option.map_eq_some_iff.mp e
  cases e3
  refine h1 F S σ H G s1 S1 r e1 _ fun v H1 G1 r1 g1 n1 n2 hr => ?_
  refine aside_ok n1 n2 h2 r1 hr e2 fun w H2 G2 r2 g2 m1 m2 q1 q2 fin => ?_
  exact ⟨v, w, rfl, hD _ H2 G2 (fin i j hij) (g1.trans g2)⟩
/-- three data at once -/
def set3 (i j l : Nat) (S : List SD) : List PyData → Option Out
  | [x, y, z] => some (.nx (((S.set i (.d x)).set j (.d y)).set l (.d z)))
  | _ => none
def sPar3 (i j l : Nat) (fs : AS) : SSem := fun S => (sTakeA fs S).bind fun p => set3 i j l p.2 p.1
theorem sem_par3 {i j l : Nat} {tA : TA} {fs : AS} (h : SemA K tA fs) : SemS K (tPar3 i j l tA) (sPar3 i j l fs) := fun F S σ H G out r e D hD => by
  obtain ⟨⟨xs, S1⟩, e1, e⟩ := Option.bind_eq_some_iff.mp e
  refine take_A h r e1 fun vs H1 G1 r1 g1 hv => ?_
  have e : set3 i j l S1 xs = some out := e
  unfold set3 at e
  split at e
  · cases e
    cases hv with
    | cons a t => cases t with
      | cons b t => cases t with
        | cons c t =>
          cases t
          exact ⟨_, _, _, rfl, hD _ H1 G1 (((r1.setD i a).setD j b).setD l c) g1⟩
  · cases e
end

/-! ### methods of lists -/
/-- m(own list of slot i, the arguments): what comes out, what the list has become -/
def sMeth (i : Nat) (g : List PyData → List PyData → Option (PyData × List PyData)) (fs : AS) : ES := fun S => match S[i]? with
  | some (.own _ _) => (sTakeA fs S).bind fun p => match p.2[i]? with
    | some (.own b xs) => (g xs p.1).map fun z => (.dat z.1, p.2.set i (.own b z.2))
    | _ => none
  | _ => none
/-- a method's rule on values keeps to g -/
def VM (K : PySem.W.Frag) (r : V → List V → Hp → VK → Prop) (g : List PyData → List PyData → Option (PyData × List PyData)) : Prop :=
  ∀ (G H : Hp) (a : Addr) (us vs : List V) (xs ys zs : List PyData) (z : PyData), Ex G H → H a = some (.lst us) → G a = none → RpAll K G us xs → RpAll K G vs ys → g xs ys = some (z, zs) →
    ∀ Q : VK, (∀ u ws, RpAll K G ws zs → Rp K G u z → Q u (upd H a (.lst ws))) → r (.ref a) vs H Q
section
variable {K : PySem.W.Frag} {F : Fr} {S S' : List SD} {σ : L2.St} {H G : Hp} {r : V → List V → Hp → VK → Prop} {g : List PyData → List PyData → Option (PyData × List PyData)} {tA : TA} {fs : AS} {i : Nat}
theorem sem_meth (hr : VM K r g) (h : SemA K tA fs) : SemE K (tBM K "list" r (tVar i) tA) (sMeth i g fs) := fun F S σ H G o S' r0 ef Q k => by
  unfold sMeth at ef
  split at ef
  · rename_i b0 x0 e0
    obtain ⟨⟨ys, S1⟩, e1, ef⟩ := Option.bind_eq_some_iff.mp ef
    have ef : (match S1[i]? with
      | some (.own b xs) => (g xs ys).map fun z => (Op.dat z.1, S1.set i (.own b z.2))
      | _ => none) = some (o, S') := ef
    split at ef
    · rename_i b1 x1 e2
      obtain ⟨⟨z, zs⟩, e3, e4⟩ := Option.map_eq_some_iff.mp ef
      cases e4
      obtain ⟨a, us, q1, q2, q3, q4, _⟩ := r0.own i _ _ e0
      refine ⟨_, q1, .inl ⟨rfl, us, .inl (.inl q3)⟩, ?_⟩
      refine take_A h r0 e1 fun vs H1 G1 r1 g1 hv => ?_
      obtain ⟨a', us', p1, p2, p3, p4, _⟩ := r1.own i _ _ e2
      rw [q1] at p1
      cases p1
      refine hr G1 H1 a us' vs x1 ys zs z r1.gh p3 p2 p4 hv e3 Q fun u ws hw hu => ?_
      exact k u _ G1 (r1.write e2 q1 hw) g1 hu
    · cases ef
  · cases ef
theorem sem_meth0 (hr : VM K r g) : SemE K (tBM0 K "list" r (tVar i)) (sMeth i g sNil) := fun F S σ H G o S' r0 ef Q k => by
  unfold sMeth at ef
  split at ef
  · rename_i b0 x0 e0
    obtain ⟨⟨ys, S1⟩, e1, ef⟩ := Option.bind_eq_some_iff.mp ef
    have e1' : (([] : List PyData), S) = (ys, S1) := by
      have : some (([] : List PyData), S) = some (ys, S1) := e1
      exact Option.some.inj this
    cases e1'
    have ef : (match S[i]? with
      | some (.own b xs) => (g xs []).map fun z => (Op.dat z.1, S.set i (.own b z.2))
      | _ => none) = some (o, S') := ef
    rw [e0] at ef
    obtain ⟨⟨z, zs⟩, e3, e4⟩ := Option.map_eq_some_iff.mp ef
    cases e4
    obtain ⟨a, us, q1, q2, q3, q4, _⟩ := r0.own i _ _ e0
    refine ⟨_, q1, .inl ⟨rfl, us, .inl (.inl q3)⟩, ?_⟩
    exact hr G H a us [] x0 [] zs z r0.gh q3 q2 q4 .nil e3 Q fun u ws hw hu => k u _ G (r0.write e0 q1 hw) (.refl _) hu
  · cases ef
def mAppend : List PyData → List PyData → Option (PyData × List PyData)
  | xs, [y] => if xs.length < 100000 then some (.none, xs ++ [y]) else none
  | _, _ => none
theorem vAppend : VM K rAppend mAppend := fun G H a us vs xs ys zs z e h hg h1 h2 q Q k => by
  unfold mAppend at q
  split at q
  · split at q
    · rename_i hl
      cases q
      cases h2 with
      | cons r t => cases t; exact ⟨a, us, _, rfl, rfl, h, szl (by rw [h1.length]; exact hl), k _ _ (h1.append (.cons r .nil)) .non⟩
    · cases q
  · cases q
def mExtend : List PyData → List PyData → Option (PyData × List PyData)
  | xs, [.list ys] => if xs.length + ys.length ≤ 100000 then some (.none, xs ++ ys) else none
  | _, _ => none
theorem vExtend : VM K rExtend mExtend := fun G H a us vs xs ys zs z e h hg h1 h2 q Q k => by
  unfold mExtend at q
  split at q
  · split at q
    · rename_i hl
      cases q
      cases h2 with
      | cons r t =>
        cases t
        cases r with
        | lst p1 p2 => exact ⟨a, _, us, _, rfl, rfl, h, e _ _ p1, sz (by rw [h1.length, p2.length]; exact hl), k _ _ (h1.append p2) .non⟩
    · cases q
  · cases q
def mPop : List PyData → List PyData → Option (PyData × List PyData)
  | xs, [] => (xs[xs.length - 1]?).map fun y => (y, xs.dropLast)
  | xs, [.int i] => (ixN xs.length i).bind fun j => (xs[j]?).map fun y => (y, xs.eraseIdx j)
  | _, _ => none
theorem vPop0 : VM K rPop (fun xs ys => if ys.length = 0 then mPop xs ys else none) := fun G H a us vs xs ys zs z e h hg h1 h2 q Q k => by
  have q : (if ys.length = 0 then mPop xs ys else none) = some (z, zs) := q
  split at q
  · rename_i hl
    have : ys = [] := List.eq_nil_of_length_eq_zero hl
    subst this
    cases h2
    obtain ⟨y, q1, q2⟩ := Option.map_eq_some_iff.mp (show (xs[xs.length - 1]?).map (fun y => (y, xs.dropLast)) = some (z, zs) from q)
    cases q2
    obtain ⟨v, w1, w2⟩ := h1.get q1
    exact ⟨a, us, v, rfl, rfl, h, by rw [h1.length]; exact w1, k _ _ h1.dropLast w2⟩
  · cases q
theorem ixN_small {n : Nat} {i : Int} {j : Nat} (h : ixN n i = some j) (hn : n ≤ sizeLine) : seqIndex? i n = some j ∧ -(2 ^ 63) ≤ i ∧ i < 2 ^ 63 := by
  obtain ⟨h1, h2, h3, h4⟩ := ixN_seq h
  have h5 : (n : Int) < 2 ^ 63 := by
    have : sizeLine < 2 ^ 63 := by decide
    omega
  exact ⟨h1, by omega, by omega⟩
theorem vPopAt : VM K (fun x vs H Q => rPopAt x vs H Q) (fun xs ys => if xs.length ≤ 100000 ∧ ys.length = 1 then mPop xs ys else none) := fun G H a us vs xs ys zs z e h hg h1 h2 q Q k => by
  have q : (if xs.length ≤ 100000 ∧ ys.length = 1 then mPop xs ys else none) = some (z, zs) := q
  split at q
  · rename_i hl
    unfold mPop at q
    split at q
    · exact absurd hl.2 (by simp)
    · obtain ⟨j, q1, q2⟩ := Option.bind_eq_some_iff.mp q
      obtain ⟨y, q3, q4⟩ := Option.map_eq_some_iff.mp q2
      cases q4
      cases h2 with
      | cons r t =>
        cases t
        cases r
        obtain ⟨v, w1, w2⟩ := h1.get q3
        obtain ⟨s1, s2, s3⟩ := ixN_small q1 (sz hl.1)
        exact ⟨a, us, _, j, v, rfl, rfl, h, s2, s3, by rw [h1.length]; exact s1, w1, k _ _ (h1.eraseIdx j) w2⟩
    · cases q
  · cases q
end
/-- l.index(x) -/
def firstIx (d : PyData) : List PyData → Option Nat
  | [] => none
  | z :: r => if PyData.eqv z d = true then some 0 else (firstIx d r).map (· + 1)
theorem firstIx_ok {d : PyData} : ∀ {xs : List PyData} {j : Nat}, firstIx d xs = some j → (∃ z, xs[j]? = some z ∧ PyData.eqv z d = true) ∧ ∀ (m : Nat) (z : PyData), m < j → xs[m]? = some z → PyData.eqv z d = false
  | [], _, h => by cases h
  | z :: r, j, h => by
    unfold firstIx at h
    split at h
    · rename_i hz
      cases h
      exact ⟨⟨z, rfl, hz⟩, fun m _ hm => absurd hm (by omega)⟩
    · rename_i hz
      obtain ⟨k, h1, rfl⟩ := Option.map_eq_some_iff.mp h
      obtain ⟨⟨y, q1, q2⟩, q3⟩ := firstIx_ok h1
      refine ⟨⟨y, by simpa using q1, q2⟩, fun m z' hm hz' => ?_⟩
      cases m with
      | zero => simp at hz'; subst hz'; simpa using hz
      | succ m => exact q3 m z' (by omega) (by simpa using hz')
def dIndex (x y : PyData) : Option PyData := match x with
  | .list xs => if fitN 60 (.list xs) = true ∧ fitN 60 y = true then (firstIx y xs).map fun j => .int (j : Nat) else none
  | _ => none
def isList : PyData → Bool
  | .list _ => true
  | _ => false
def sIndex (fo fa : ES) : ES := fun S => (fo S).bind fun p => (p.1.get p.2).bind fun l => if isList l = true then (fa p.2).bind fun q => (p.1.get q.2).bind fun x => (q.1.get q.2).bind fun y => (dIndex x y).map fun z => (.dat z, q.2) else none
section
variable {K : PySem.W.Frag} {to ta : TE} {fo fa : ES}
theorem isList_some {x : PyData} (h : isList x = true) : ∃ xs, x = .list xs := by
  cases x with
  | list xs => exact ⟨xs, rfl⟩
  | _ => cases h
theorem sem_index (h1 : SemE K to fo) (h2 : SemE K ta fa) : SemE K (tBM K "list" (rIndexD K) to (tCons ta tNil)) (sIndex fo fa) := fun F S σ H G o S' r ef Q k => by
  obtain ⟨⟨o1, S1⟩, e1, ef⟩ := Option.bind_eq_some_iff.mp ef
  obtain ⟨l, e2, ef⟩ := Option.bind_eq_some_iff.mp ef
  have ef : (if isList l = true then (fa S1).bind fun q => (o1.get q.2).bind fun x => (q.1.get q.2).bind fun y => (dIndex x y).map fun z => (Op.dat z, q.2) else none) = some (o, S') := ef
  split at ef
  · rename_i hl
    obtain ⟨xs, rfl⟩ := isList_some hl
    obtain ⟨⟨o2, S2⟩, e3, ef⟩ := Option.bind_eq_some_iff.mp ef
    obtain ⟨x, e4, ef⟩ := Option.bind_eq_some_iff.mp ef
    obtain ⟨y, e5, ef⟩ := Option.bind_eq_some_iff.mp ef
    obtain ⟨z, e6, ef⟩ := Option.map_eq_some_iff.mp ef
    cases ef
    refine h1 F S σ H G o1 S1 r e1 _ fun v H1 G1 r1 g1 q1 => ?_
    obtain ⟨a, vs, rfl, p1, p2⟩ := (op_get r1 q1 e2).lst r1.gh
    refine ⟨.inl ⟨rfl, vs, .inl (.inl p1)⟩, ?_⟩
    refine h2 F S1 σ H1 G1 o2 _ r1 e3 _ fun w H2 G2 r2 g2 q2 => ?_
    show rIndexD K _ [w] H2 Q
    have hx := op_get r2 (q1.mono g2) e4
    have hy := op_get r2 q2 e5
    unfold dIndex at e6
    split at e6
    · split at e6
      · rename_i f
        obtain ⟨j, f1, f2⟩ := Option.map_eq_some_iff.mp e6
        cases f2
        obtain ⟨⟨z, z1, z2⟩, z3⟩ := firstIx_ok f1
        refine ⟨a, w, y, _, j, z, rfl, rfl, (hx.rp r2.gh).dp (fit_lay f.1), (hy.rp r2.gh).dp (fit_lay f.2), fit_shaped f.1, fit_shaped f.2, z1, z2, z3, k _ H2 G2 r2 (g1.trans g2) (.int _)⟩
      · cases e6
    · cases e6
  · cases ef
end
/-! ### a store -/
def setAt (i : Nat) (x : PyData) (k : Int) (S : List SD) : Option SD → Option (List SD)
  | some (.own b xs) => (ixN xs.length k).map fun j => S.set i (.own b (xs.set j x))
  | _ => none
def isOwnS : Option SD → Bool
  | some (.own _ _) => true
  | _ => false
theorem isOwnS_some {s : Option SD} (h : isOwnS s = true) : ∃ b xs, s = some (.own b xs) := by
  cases s with
  | none => cases h
  | some s => cases s with
    | own b xs => exact ⟨b, xs, rfl⟩
    | _ => cases h
def gsSub (i : Nat) (fi : ES) : GS := fun x S => if isOwnS (S[i]?) = true then (fi S).bind fun p => (p.1.get p.2).bind fun y => (dIntO y).bind fun k => setAt i x k p.2 (p.2[i]?) else none
theorem sem_gsub {K : PySem.W.Frag} {ti : TE} {fi : ES} {i : Nat} (h : SemE K ti fi) : SemG K (gSub (tVar i) ti rSetL) [] (gsSub i fi) := fun F S σ H G v x S' r hx e Q k => by
  have e : (if isOwnS (S[i]?) = true then (fi S).bind fun p => (p.1.get p.2).bind fun y => (dIntO y).bind fun k => setAt i x k p.2 (p.2[i]?) else none) = some S' := e
  split at e
  · rename_i ho
    obtain ⟨b0, x0, e0⟩ := isOwnS_some ho
    obtain ⟨a, us, t1, _⟩ := r.own i _ _ e0
    obtain ⟨⟨o1, S1⟩, e1, e⟩ := Option.bind_eq_some_iff.mp e
    obtain ⟨y, e2, e⟩ := Option.bind_eq_some_iff.mp e
    obtain ⟨n, e3, e⟩ := Option.bind_eq_some_iff.mp e
    have hy := dIntO_some e3
    subst hy
    have e : setAt i x n S1 (S1[i]?) = some S' := e
    cases e4 : S1[i]? with
    | none => rw [e4] at e; cases e
    | some sd =>
      rw [e4] at e
      cases sd with
      | own b xs =>
        obtain ⟨j, e5, e6⟩ := Option.map_eq_some_iff.mp e
        cases e6
        refine ⟨_, t1, ?_⟩
        refine h F S σ H G o1 S1 r e1 _ fun w H1 G1 r1 g1 q1 => ?_
        obtain ⟨a', us', p1, p2, p3, p4, _⟩ := r1.own i _ _ e4
        rw [t1] at p1
        cases p1
        refine ⟨a, us', n, j, rfl, (op_get r1 q1 e2).int, p3, by rw [p4.length]; exact e5, ?_⟩
        exact k σ _ G1 (r1.write e4 t1 (p4.set (hx.mono g1) j)) g1 (.refl _ _)
      | _ => cases e
  · cases e
end DL

set_option Elab.async false
set_option linter.all false
set_option maxRecDepth 100000
set_option maxHeartbeats 4000000
/-! DL, part 11: the rules for the text: methods, stores, statements, comprehensions. -/
namespace DL
open PySem PySem.Spec PyProof.Rows L2

section
variable {X : Cx} {K : PySem.W.Frag} {e o c : Expr} {es : List Expr} {pos apos cpos pos' : Pos} {te ta to ti : TE} {tt : TT} {tA : TA} {fe fa fo fi : ES} {fs : AS} {fl : LS} {fd : DS} {fv fw : VS} {fb : BS} {i j : Nat} {x y : Str}
theorem se_pv (i : Nat) {x : Str} {pos : Pos} (hN : X.N[i]? = some x := by rfl) (hv : Vis X.env.scope x := by first | exact .inl rfl | exact .inr (.inl rfl) | exact .inr (.inr rfl)) (hd : (x == ("__debug__" : Str)) = false := by decide) (hcd : (x == ("__classdict__" : Str)) = false := by decide) : SE X K (.Name x pos) (tVar i) (sVar i) := se_var (pe_var hN hv hd hcd)
/-! ### methods -/
theorem se_append (hK : X.K = K) (ho : SE X K o (tVar i) (sVar i)) (ha : SA X K [e] tA fs) (hbase : attributeBase o "append" X.env (eval o X.env) = eval o X.env := by rfl)
    (hfew : ((backTo cpos (starEach [e] X.env)).all (fun x => !x.1) && (backToKw cpos (keywordEach [] X.env)).all (fun x => x.1.isSome)
      && decide ([e].length + ([] : List Keyword).length + (if ([] : List Keyword).isEmpty then 0 else 1) < 30)) = true := by rfl)
    (hline : (apos.endLine == cpos.line) = true := by rfl) (hs : starEach [e] X.env = (false, eval e X.env) :: starEach [] X.env := by rfl) (hplain : (backTo cpos (starEach [] X.env)).any (·.1) = false := by rfl) :
    SE X K (.Call (.Attribute o "append" apos) [e] [] cpos) (tBM K "list" rAppend (tVar i) tA) (sMeth i mAppend fs) := by
  subst hK
  exact ⟨pe_bm PySem.F.plainAttrs_list PySem.F.slot_list_append PySem.F.type_list_append mt_append ho.p ha.p hbase hfew hline hs hplain, sem_meth vAppend ha.ok⟩
theorem se_extend (hK : X.K = K) (ho : SE X K o (tVar i) (sVar i)) (ha : SA X K [e] tA fs) (hbase : attributeBase o "extend" X.env (eval o X.env) = eval o X.env := by rfl)
    (hfew : ((backTo cpos (starEach [e] X.env)).all (fun x => !x.1) && (backToKw cpos (keywordEach [] X.env)).all (fun x => x.1.isSome)
      && decide ([e].length + ([] : List Keyword).length + (if ([] : List Keyword).isEmpty then 0 else 1) < 30)) = true := by rfl)
    (hline : (apos.endLine == cpos.line) = true := by rfl) (hs : starEach [e] X.env = (false, eval e X.env) :: starEach [] X.env := by rfl) (hplain : (backTo cpos (starEach [] X.env)).any (·.1) = false := by rfl) :
    SE X K (.Call (.Attribute o "extend" apos) [e] [] cpos) (tBM K "list" rExtend (tVar i) tA) (sMeth i mExtend fs) := by
  subst hK
  exact ⟨pe_bm PySem.F.plainAttrs_list PySem.F.slot_list_extend PySem.F.type_list_extend mt_extend ho.p ha.p hbase hfew hline hs hplain, sem_meth vExtend ha.ok⟩
def mPopAt : List PyData → List PyData → Option (PyData × List PyData) := fun xs ys => if xs.length ≤ 100000 ∧ ys.length = 1 then mPop xs ys else none
def mPop0 : List PyData → List PyData → Option (PyData × List PyData) := fun xs ys => if ys.length = 0 then mPop xs ys else none
theorem se_popAt (hK : X.K = K) (ho : SE X K o (tVar i) (sVar i)) (ha : SA X K [e] tA fs) (hbase : attributeBase o "pop" X.env (eval o X.env) = eval o X.env := by rfl)
    (hfew : ((backTo cpos (starEach [e] X.env)).all (fun x => !x.1) && (backToKw cpos (keywordEach [] X.env)).all (fun x => x.1.isSome)
      && decide ([e].length + ([] : List Keyword).length + (if ([] : List Keyword).isEmpty then 0 else 1) < 30)) = true := by rfl)
    (hline : (apos.endLine == cpos.line) = true := by rfl) (hs : starEach [e] X.env = (false, eval e X.env) :: starEach [] X.env := by rfl) (hplain : (backTo cpos (starEach [] X.env)).any (·.1) = false := by rfl) :
    SE X K (.Call (.Attribute o "pop" apos) [e] [] cpos) (tBM K "list" rPopAt (tVar i) tA) (sMeth i mPopAt fs) := by
  subst hK
  exact ⟨pe_bm PySem.F.plainAttrs_list PySem.F.slot_list_pop PySem.F.type_list_pop mt_popAt ho.p ha.p hbase hfew hline hs hplain, sem_meth vPopAt ha.ok⟩
theorem se_pop (hK : X.K = K) (ho : SE X K o (tVar i) (sVar i)) (hbase : attributeBase o "pop" X.env (eval o X.env) = eval o X.env := by rfl) (hline : (apos.endLine == cpos.line) = true := by rfl) :
    SE X K (.Call (.Attribute o "pop" apos) [] [] cpos) (tBM0 K "list" rPop (tVar i)) (sMeth i mPop0 sNil) := by
  subst hK
  exact ⟨pe_bm0 PySem.F.plainAttrs_list PySem.F.slot_list_pop PySem.F.type_list_pop mt_pop ho.p hbase hline, sem_meth0 vPop0⟩
theorem se_index (hK : X.K = K) {k : Nat} (hr : Room k X.A) (ho : SE X K o to fo) (ha : SE X K e ta fa) (hbase : attributeBase o "index" X.env (eval o X.env) = eval o X.env := by rfl)
    (hfew : ((backTo cpos (starEach [e] X.env)).all (fun x => !x.1) && (backToKw cpos (keywordEach [] X.env)).all (fun x => x.1.isSome)
      && decide ([e].length + ([] : List Keyword).length + (if ([] : List Keyword).isEmpty then 0 else 1) < 30)) = true := by rfl)
    (hline : (apos.endLine == cpos.line) = true := by rfl) (hs : starEach [e] X.env = (false, eval e X.env) :: starEach [] X.env := by rfl) (hplain : (backTo cpos (starEach [] X.env)).any (·.1) = false := by rfl) :
    SE X K (.Call (.Attribute o "index" apos) [e] [] cpos) (tBM K "list" (rIndexD K) to (tCons ta tNil)) (sIndex fo fa) := by
  subst hK
  exact ⟨pe_bm PySem.F.plainAttrs_list PySem.F.slot_list_index PySem.F.type_list_index (mt_indexD (by have := hr.un; omega)) ho.p (pa_cons ha.p pa_nil hs) hbase hfew hline hs hplain, sem_index ho.ok ha.ok⟩
/-! ### list(range), tuple(range) -/
abbrev RS := List SD → Option ((Int × Int) × List SD)
def SemR (K : PySem.W.Frag) (t : L2.St → Hp → (Int → Int → Hp → Prop) → Prop) (f : RS) : Prop := ∀ F S σ H G a b S', SR K F S σ H G → f S = some ((a, b), S') → ∀ Q : Int → Int → Hp → Prop, (∀ H' G', SR K F S' σ H' G' → Ex G G' → Q a b H') → t σ H Q
structure SRg (X : Cx) (K : PySem.W.Frag) (e : Expr) (t : L2.St → Hp → (Int → Int → Hp → Prop) → Prop) (f : RS) : Prop where
  p : PRg X e t
  ok : SemR K t f
def sRg1 (fe : ES) : RS := fun S => (fe S).bind fun p => (p.1.get p.2).bind fun x => (dIntO x).map fun n => ((0, n), p.2)
def sRg2 (fe fa : ES) : RS := fun S => (fe S).bind fun p => (fa p.2).bind fun q => (p.1.get q.2).bind fun x => (q.1.get q.2).bind fun y => (dIntO x).bind fun n => (dIntO y).map fun m => ((n, m), q.2)
theorem sem_rg1 (h : SemE K te fe) : SemR K (tRg1 te) (sRg1 fe) := fun F S σ H G a b S' r ef Q k => by
  obtain ⟨⟨o1, S1⟩, e1, ef⟩ := Option.bind_eq_some_iff.mp ef
  obtain ⟨x, e2, ef⟩ := Option.bind_eq_some_iff.mp ef
  obtain ⟨n, e3, ef⟩ := Option.map_eq_some_iff.mp ef
  cases ef
  have hx := dIntO_some e3
  subst hx
  refine h F S σ H G o1 _ r e1 _ fun v H1 G1 r1 g1 h1 => ?_
  exact ⟨_, (op_get r1 h1 e2).int, k H1 G1 r1 g1⟩
theorem sem_rg2 (h : SemE K te fe) (h2 : SemE K ta fa) : SemR K (tRg2 te ta) (sRg2 fe fa) := fun F S σ H G a b S' r ef Q k => by
  obtain ⟨⟨o1, S1⟩, e1, ef⟩ := Option.bind_eq_some_iff.mp ef
  obtain ⟨⟨o2, S2⟩, e2, ef⟩ := Option.bind_eq_some_iff.mp ef
  obtain ⟨x, e3, ef⟩ := Option.bind_eq_some_iff.mp ef
  obtain ⟨y, e4, ef⟩ := Option.bind_eq_some_iff.mp ef
  obtain ⟨n, e5, ef⟩ := Option.bind_eq_some_iff.mp ef
  obtain ⟨m, e6, ef⟩ := Option.map_eq_some_iff.mp ef
  cases ef
  have hx := dIntO_some e5
  subst hx
  have hy := dIntO_some e6
  subst hy
  refine h F S σ H G o1 S1 r e1 _ fun v H1 G1 r1 g1 h1 => ?_
  refine h2 F S1 σ H1 G1 o2 _ r1 e2 _ fun w H2 G2 r2 g2 q2 => ?_
  exact ⟨_, _, (op_get r2 (h1.mono g2) e3).int, (op_get r2 q2 e4).int, k H2 G2 r2 (g1.trans g2)⟩
theorem srg_1 {p : Pos} (hm : X.mg "range" = none) (ha : SE X K e te fe) (hg : Gl X "range" := by rfl) (na : starEach [e] X.env = (false, eval e X.env) :: starEach [] X.env := by rfl) : SRg X K (.Call (.Name "range" p) [e] [] pos) (tRg1 te) (sRg1 fe) := ⟨prg_1 hg hm ha.p na, sem_rg1 ha.ok⟩
theorem srg_2 {p : Pos} (hm : X.mg "range" = none) (ha : SE X K e te fe) (hb : SE X K c ta fa) (hg : Gl X "range" := by rfl) (na : starEach [e, c] X.env = (false, eval e X.env) :: starEach [c] X.env := by rfl) (nb : starEach [c] X.env = (false, eval c X.env) :: starEach [] X.env := by rfl) (hp : (backTo pos (starEach [c] X.env)).any (·.1) = false := by rfl) : SRg X K (.Call (.Name "range" p) [e, c] [] pos) (tRg2 te ta) (sRg2 fe fa) := ⟨prg_2 hg hm ha.p hb.p na nb hp, sem_rg2 ha.ok hb.ok⟩
def rgB (a b : Int) : Bool := decide (-(2 ^ 62) ≤ a) && decide (a < 2 ^ 62) && decide (-(2 ^ 62) ≤ b) && decide (b < 2 ^ 62) && decide ((b - a).toNat ≤ 2 ^ 24)
theorem rgB_ok {a b : Int} (h : rgB a b = true) : RgOk a b := by
  simp only [rgB, Bool.and_eq_true, decide_eq_true_eq] at h
  exact ⟨h.1.1.1.1, h.1.1.1.2, h.1.1.2, h.1.2, h.2⟩
theorem RpAll.rg {G : Hp} (a b : Int) : RpAll K G (rgV a b) (rngD a (b - a).toNat) := by
  unfold rgV rngD
  generalize List.range (b - a).toNat = l
  induction l with
  | nil => exact .nil
  | cons n l ih => exact .cons (.int _) ih
def sLstRg (f : RS) : LS := fun S => (f S).bind fun p => if rgB p.1.1 p.1.2 = true then some (rngD p.1.1 (p.1.2 - p.1.1).toNat, p.2) else none
def sTupRg (f : RS) : ES := fun S => (f S).bind fun p => if rgB p.1.1 p.1.2 = true then some (.dat (.tuple (rngD p.1.1 (p.1.2 - p.1.1).toNat)), p.2) else none
variable {tr : L2.St → Hp → (Int → Int → Hp → Prop) → Prop} {fr : RS}
theorem sem_lstRg (h : SemR K tr fr) : SemL K (tLstRg tr) (sLstRg fr) := fun F S σ H G xs S' r ef Q k => by
  obtain ⟨⟨⟨a, b⟩, S1⟩, e1, ef⟩ := Option.bind_eq_some_iff.mp ef
  have ef : (if rgB a b = true then some (rngD a (b - a).toNat, S1) else none) = some (xs, S') := ef
  split at ef
  · rename_i hc
    cases ef
    refine h F S σ H G a b _ r e1 _ fun H1 G1 r1 g1 => ⟨rgB_ok hc, fun p hp => ?_⟩
    obtain ⟨f0, fg, fa⟩ := r1.fresh hp
    have px := PX.side (o := .lst (rgV a b)) r1.gh hp
    exact k _ _ _ _ (r1.ext px) g1 f0 fg fa upd_same (RpAll.rg a b)
  · cases ef
theorem sem_tupRg (h : SemR K tr fr) : SemE K (tTupRg tr) (sTupRg fr) := fun F S σ H G xs S' r ef Q k => by
  obtain ⟨⟨⟨a, b⟩, S1⟩, e1, ef⟩ := Option.bind_eq_some_iff.mp ef
  have ef : (if rgB a b = true then some (Op.dat (.tuple (rngD a (b - a).toNat)), S1) else none) = some (xs, S') := ef
  split at ef
  · rename_i hc
    cases ef
    refine h F S σ H G a b _ r e1 _ fun H1 G1 r1 g1 => ⟨rgB_ok hc, fun p hp => ?_⟩
    have px := PX.laid (o := .tup (rgV a b)) r1.gh hp
    exact k _ _ _ (r1.ext px) (g1.trans px.gg) (.tup (.inl (.inl upd_same)) (RpAll.rg a b))
  · cases ef
theorem sl_listRg {p : Pos} (hc : X.calm = true) (hm : X.mg "list" = none) (h : SRg X K e tr fr) (hg : Gl X "list" := by rfl) (na : starEach [e] X.env = (false, eval e X.env) :: starEach [] X.env := by rfl) : SL X K (.Call (.Name "list" p) [e] [] pos) (tLstRg tr) (sLstRg fr) := ⟨pe_listRg hc hg hm h.p na, sem_lstRg h.ok⟩
theorem se_tupRg {p : Pos} (hc : X.calm = true) (hm : X.mg "tuple" = none) (h : SRg X K e tr fr) (hg : Gl X "tuple" := by rfl) (na : starEach [e] X.env = (false, eval e X.env) :: starEach [] X.env := by rfl) : SE X K (.Call (.Name "tuple" p) [e] [] pos) (tTupRg tr) (sTupRg fr) := ⟨pe_tupRg hc hg hm h.p na, sem_tupRg h.ok⟩
/-! ### a target o[i] -/
theorem sg_sub (ho : SE X K o (tVar i) (sVar i)) (hi : SE X K e ti fi) (ha : ∀ v, assign (.Subscript o e pos) X.env v = (do
      let ov ← holding [v] (eval o X.env)
      let iv ← holding [v, ov] (eval e X.env)
      standAt pos
      holding [v, ov, iv] (setItem ov iv v)
      release [v, ov, iv] []) := by intro _; rfl) : SG X K (.Subscript o e pos) (gSub (tVar i) ti rSetL) [] (gsSub i fi) := ⟨pg_sub ho.p hi.p set_list ha, sem_gsub hi.ok⟩
/-! ### statements -/
theorem sss_nil : SSs X K [] tNext sNext := ⟨pss_nil, sem_next⟩
theorem sss_cons {st : Stmt} {rest : List Stmt} {t u : TS} {f g : SSem} (h1 : SS X K st t f) (h2 : SSs X K rest u g) : SSs X K (st :: rest) (tSeq t u) (sSeq f g) := ⟨pss_cons h1.p h2.p, sem_seq h1.ok h2.ok⟩
theorem sss_one {st : Stmt} {t : TS} {f : SSem} (h1 : SS X K st t f) : SSs X K [st] t f := ⟨pss_one h1.p, h1.ok⟩
theorem ss_pass : SS X K (.Pass pos) tNext sNext := ⟨ps_pass, sem_next⟩
theorem ss_break : SS X K (.Break pos) tBreak sBreak := ⟨ps_break, sem_break⟩
theorem ss_cont : SS X K (.Continue pos) tCont sCont := ⟨ps_continue, sem_cont⟩
theorem ss_never {st : Stmt} : SS X K st tNever sNever := ⟨ps_never, sem_never⟩
theorem sss_never {sts : List Stmt} : SSs X K sts tNever sNever := ⟨pss_never, sem_never⟩
theorem ss_doc {x : Str} {j} : SS X K (.Expr (.Constant (.str x) j pos) pos') tNext sNext := ⟨ps_doc, sem_next⟩
theorem ss_expr (he : SE X K e te fe) (hs : swapsWith e none pos.line X.env = pure false := by rfl) : SS X K (.Expr e pos) (tDrop te) (sDrop fe) := ⟨ps_expr he.p hs, sem_drop he.ok⟩
theorem ss_ret (he : SV X K e te fv) : SS X K (.Return (some e) pos) (tRet te) (sRetVS fv) := ⟨ps_ret he.p, sem_retVS he.ok⟩
theorem ss_retV (he : SE X K e (tVar i) (sVar i)) : SS X K (.Return (some e) pos) (tRet (tVar i)) (sRetV i) := ⟨ps_ret he.p, sem_retV⟩
theorem ss_retN : SS X K (.Return none pos) tRetN sRetN := ⟨ps_retN, sem_retN⟩
theorem ss_if {a b : List Stmt} {t u : TS} {f g : SSem} (hc : ST X K c tt fb) (ha : SSs X K a t f) (hb : SSs X K b u g) : SS X K (.If c a b pos) (tIfS tt t u) (sIf fb f g) := ⟨ps_if hc.p ha.p hb.p, sem_ifS hc.ok ha.ok hb.ok⟩
theorem ss_set (hN : X.N.Nodup) (he : SV X K e te fv) (hi : X.N[i]? = some x := by rfl) (hx : Loc X.env.scope x := by first | exact Or.inl rfl | exact Or.inr rfl) (hs : swapsWith e (some (.Name x pos')) pos.line X.env = pure false := by rfl)
    (hf : X.fn x = true ∨ X.env.scope.names.lookup x = some .local := by first | exact Or.inl rfl | exact Or.inr rfl) : SS X K (.Assign [.Name x pos'] e pos) (tAsg te (gName i)) (sSetV fv i) := ⟨ps_set hN hi hx he.p hs hf, sem_setV he.ok⟩
theorem ss_asg {tg : Expr} {g : TG} {ix : List Nat} {gs : GS} (he : SDt X K e te fd) (hg : SG X K tg g ix gs) (hs : swapsWithSole [tg] e pos.line X.env = pure false := by rfl) (hw : swappedStores [tg] e X.env = pure none := by rfl)
    (h1 : (assignEach [tg] X.env).map (·.2) = [assign tg X.env] := by rfl) : SS X K (.Assign [tg] e pos) (tAsg te g) (sAsg fd gs) := ⟨ps_asg he.p hg.p hs hw h1, sem_asg he.ok hg.ok⟩
theorem ss_par {a b : Expr} {px py pt : Pos} {kt k2 pt2} (hc : X.calm = true) (hN : X.N.Nodup) (hij : i ≠ j) (h1 : SV X K a te fv) (h2 : SV X K b ta fw) (hi : X.N[i]? = some x := by rfl) (hj : X.N[j]? = some y := by rfl)
    (hx : X.env.scope.names.lookup x = some .local := by rfl) (hy : X.env.scope.names.lookup y = some .local := by rfl) (hsa : starEach [a, b] X.env = (false, eval a X.env) :: starEach [b] X.env := by rfl) (hsb : starEach [b] X.env = (false, eval b X.env) :: starEach [] X.env := by rfl)
    (hw : swappedStores [.Tuple [.Name x px, .Name y py] kt pt] (.Tuple [a, b] k2 pt2) X.env = pure (some [x, y]) := by rfl)
    (hs : swapsWithSole [.Tuple [.Name x px, .Name y py] kt pt] (.Tuple [a, b] k2 pt2) pos.line X.env = pure false := by rfl) :
    SS X K (.Assign [.Tuple [.Name x px, .Name y py] kt pt] (.Tuple [a, b] k2 pt2) pos) (tPar i j (tCons te (tCons ta tNil))) (sPar i j fv fw) := ⟨ps_par hc hN hi hj hij hx hy (pa_cons h1.p (pa_cons h2.p pa_nil hsb) hsa) hw hs, sem_par hij h1.ok h2.ok⟩
theorem ss_for {tg iter : Expr} {body : List Stmt} {wi : TI} {g : TG} {ix : List Nat} {gs : GS} {tb : TS} {fB : SSem} (hp : PassesOwn (model X.prog X.w) X.A X.env X.xe) (hc : X.calm = true) (hi : SI X K tg iter wi fl) (hg : SG X K tg g ix gs) (hb : SSs X K body tb fB)
    (hs : ∀ x, foldedSetIterable iter X.env x = pure x := by intro _; rfl) : SS X K (.For tg iter body [] pos) (tFor wi g tb) (sFor fl gs fB) := ⟨ps_for hp hc hi.p hg.p hb.p hs, sem_for hi.ok hg.ok hb.ok⟩
theorem ss_while (n : Nat) {body : List Stmt} {tb : TS} {fB : SSem} (hp : PassesOwn (model X.prog X.w) X.A X.env X.xe) (hc : ST X K c tt fb) (hb : SSs X K body tb fB) : SS X K (.While c body [] pos) (tWhile tt tb) (sWhile n fb fB) := ⟨ps_while hp hc.p hb.p, sem_while hc.ok hb.ok⟩
/-! ### comprehensions -/
structure STs (X : Cx) (K : PySem.W.Frag) (ifs : List Expr) (t : TT) (f : BS) : Prop where
  p : PTs X ifs t
  ok : SemB K t f
theorem sts_nil : STs X K [] tYes sYes := ⟨pts_nil, sem_yes⟩
theorem sts_one (h : ST X K c tt fb) : STs X K [c] tt fb := ⟨pts_one h.p, h.ok⟩
variable {elt tg iter : Expr} {ifs : List Expr} {scope : Scope} {spos : Pos} {wi : TI} {g : TG} {ix : List Nat} {gs : GS} {py : Pos}
theorem sl_lc (own : List (Str × Nat)) (vs : List Nat) (hc : X.calm = true) (hN : X.N.Nodup) (hi : SI X K tg iter wi fl) (ok : blkC X.N X.env.scope scope own = true)
    (hg : ∀ (s : Shared) (H : Hp) (C : Addr) (cl : List (Str × Addr)) (fp : List Addr), SG (X.blk s H scope (compEnvC scope cl C X.env) fp) K tg g ix gs) (ht : ∀ (s : Shared) (H : Hp) (C : Addr) (cl : List (Str × Addr)) (fp : List Addr), STs (X.blk s H scope (compEnvC scope cl C X.env) fp) K ifs tt fb)
    (he : ∀ (s : Shared) (H : Hp) (C : Addr) (cl : List (Str × Addr)) (fp : List Addr), SDt (X.blk s H scope (compEnvC scope cl C X.env) fp) K elt te fd) (hv : own.map (·.2) = vs := by rfl) (hix : ∀ i ∈ ix, i ∈ vs := by decide) (hs : ∀ x, foldedSetIterable iter X.env x = pure x := by intro _; rfl) :
    SL X K (.ListComp elt [⟨tg, iter, ifs, 0⟩] scope pos) (tLc wi g tt te vs) (sLC vs fl gs fb fd) := by
  subst hv
  have s0 : Shared := X.s_0
  exact ⟨pe_lc hc hN hi.p (blkOk_by ok) (fun s H C cl fp => (hg s H C cl fp).p) (fun s H C cl fp => (ht s H C cl fp).p) (fun s H C cl fp => (he s H C cl fp).p) hs,
    sem_lc hi.ok (hg s0 X.H_0 0 [] []).ok hix (ht s0 X.H_0 0 [] []).ok (he s0 X.H_0 0 [] []).ok⟩
/-- name = [..]: the slot is given the new list, as its own or standing still (b) -/
def vLC (b : Bool) (fl : LS) : VS := if b then vD (sTake (sKeep fl)) else vL fl
theorem sem_vLC {b : Bool} (h : SemL K te fl) : SemV K te (vLC b fl) := by
  cases b with
  | true => exact sem_vD (sem_take (sem_keep h))
  | false => exact sem_vL h
theorem ss_setLc (b : Bool) (own : List (Str × Nat)) (vs : List Nat) (hc : X.calm = true) (hN : X.N.Nodup) (hi : SI X K tg iter wi fl) (ok : blkC X.N X.env.scope scope own = true)
    (hg : ∀ (s : Shared) (H : Hp) (C : Addr) (cl : List (Str × Addr)) (fp : List Addr), SG (X.blk s H scope (compEnvC scope cl C X.env) fp) K tg g ix gs) (ht : ∀ (s : Shared) (H : Hp) (C : Addr) (cl : List (Str × Addr)) (fp : List Addr), STs (X.blk s H scope (compEnvC scope cl C X.env) fp) K ifs tt fb)
    (he : ∀ (s : Shared) (H : Hp) (C : Addr) (cl : List (Str × Addr)) (fp : List Addr), SDt (X.blk s H scope (compEnvC scope cl C X.env) fp) K elt te fd) (hsw : swapsWith (.ListComp elt [⟨tg, iter, ifs, 0⟩] scope pos) (some (.Name y py)) spos.line X.env = pure true) (hy : X.N[i]? = some y := by rfl) (hyl : X.env.scope.names.lookup y = some .local := by rfl)
    (hv : own.map (·.2) = vs := by rfl) (hix : ∀ i ∈ ix, i ∈ vs := by decide) (hs : ∀ x, foldedSetIterable iter X.env x = pure x := by intro _; rfl) :
    SS X K (.Assign [.Name y py] (.ListComp elt [⟨tg, iter, ifs, 0⟩] scope pos) spos) (tAsg (tLc wi g tt te vs) (gName i)) (sSetV (vLC b (sLC vs fl gs fb fd)) i) := by
  subst hv
  have s0 : Shared := X.s_0
  exact ⟨ps_setLc hc hN hy hyl hsw hi.p (blkOk_by ok) (fun s H C cl fp => (hg s H C cl fp).p) (fun s H C cl fp => (ht s H C cl fp).p) (fun s H C cl fp => (he s H C cl fp).p) hs,
    sem_setV (sem_vLC (sem_lc hi.ok (hg s0 X.H_0 0 [] []).ok hix (ht s0 X.H_0 0 [] []).ok (he s0 X.H_0 0 [] []).ok))⟩
end
end DL

set_option Elab.async false
set_option linter.all false
set_option maxRecDepth 100000
set_option maxHeartbeats 4000000
/-! DL, part 12: the law's end; facts of built-ins. -/
namespace DL
open PySem PySem.Spec PyProof.Rows L2

theorem bt_isinstance : bootBuiltins "isinstance" = some (.builtin "isinstance") := by decide +kernel
theorem bt_all : bootBuiltins "all" = some (.builtin "all") := by decide +kernel
theorem bt_any : bootBuiltins "any" = some (.builtin "any") := by decide +kernel
theorem bt_sum : bootBuiltins "sum" = some (.builtin "sum") := by decide +kernel
theorem bt_max : bootBuiltins "max" = some (.builtin "max") := by decide +kernel
theorem bt_min : bootBuiltins "min" = some (.builtin "min") := by decide +kernel
theorem bt_abs : bootBuiltins "abs" = some (.builtin "abs") := by decide +kernel
theorem bt_len : bootBuiltins "len" = some (.builtin "len") := by decide +kernel
theorem bt_repr : bootBuiltins "repr" = some (.builtin "repr") := by decide +kernel
theorem bt_sorted : bootBuiltins "sorted" = some (.builtin "sorted") := by decide +kernel
theorem bt_divmod : bootBuiltins "divmod" = some (.builtin "divmod") := by decide +kernel
theorem bt_tuple : bootBuiltins "tuple" = some (.type "tuple") := by decide +kernel
theorem bt_list : bootBuiltins "list" = some (.type "list") := by decide +kernel
theorem bt_int : bootBuiltins "int" = some (.type "int") := by decide +kernel
theorem bt_set : bootBuiltins "set" = some (.type "set") := by decide +kernel
theorem bt_str : bootBuiltins "str" = some (.type "str") := by decide +kernel
theorem bt_bool : bootBuiltins "bool" = some (.type "bool") := by decide +kernel
theorem bt_dict : bootBuiltins "dict" = some (.type "dict") := by decide +kernel
theorem bt_range : bootBuiltins "range" = some (.type "range") := by decide +kernel

/-- the script as data -/
def scrD (ns : List Int) : PyData := .dict [(.none, .list (ns.map .int))]
/-- what the law's def is to hand back -/
def LawM (n : Nat) (m : Fn) : Prop := ∀ ns : List Int, ns.length ≤ n → m [.d (scrD ns)] = some (.d (.bool true), [.d (scrD ns)])

section
variable {P : Program} {w : World} {K : PySem.W.Frag} {mg mb : Str → Option Value} {k : Nat} {fa a : Addr} {fd : FuncData} {x : Str} {m : Fn} {s1 : Shared} {vs : List Value} {ns : List Int} {n : Nat}
theorem sr_script {H : Hp} (hS : SqL K H a (ns.map V.int)) : SR K ⟨H, H, [.d (scrD ns)], [V.ref a].map some⟩ [.d (scrD ns)] ([V.ref a].map some) H H := by
  refine ⟨rfl, .refl _, .refl _, fun b h => .inl h, fun b o h _ => h, fun b h => h, fun i y e => ?_, fun i b xs e => ?_, fun i j c b1 x1 b2 x2 e1 _ _ _ => ?_⟩
  · cases i with
    | zero => cases e; exact ⟨.ref a, rfl, .scr hS (RpAll.of_ints ns)⟩
    | succ i => simp at e
  · cases i with
    | zero => cases e
    | succ i => simp at e
  · cases i with
    | zero => cases e1
    | succ i => simp at e1
theorem law_callG (KX : K.In s1.heap) (hns : s1.heap.Ns mainGlobals mg) (hb : s1.heap.Ns builtinsNs mb) (hbb : ∀ x : Str, x ≠ "__name__" → mb x = bootBuiltins x) (hlim : s1.heap.NoLimit) (hg : s1.gens = #[])
    (ha : s1.heap.get? a = some { cls := .type "list", data := .seq vs.toArray }) (hi : IntsAre vs ns) (hl : ns.length ≤ sizeLine) (hn : ns.length ≤ n) (hr : Room k callerA)
    (F : ∀ base : Heap, K.In base → base.Ns mainGlobals mg → FnG P w K mg base k fa fd [x] m) (hbind : ∀ (s : Shared) (u : Value), BindsTo s fd ⟨[u], []⟩ [(x, u)]) (hm : LawM n m) :
    codeAny (model P w) callerA (.call (.ref fa) ⟨[.ref a], []⟩) (fun r s' => r = .ok (.ret (.bool true)) ∧ OldK s1.heap s'.heap ∧ s'.os = s1.os ∧ AllBare s'.gens) s1 := by
  have rv := vals_ints hi
  have lenV := hi.length
  have key : ∀ H : Hp, Only H → SqL K H a (ns.map V.int) → HOk P w H s1.heap → (∀ b, H b ≠ none → b = a ∧ K.lookup a = none) →
      codeAny (model P w) callerA (.call (.ref fa) ⟨[.ref a], []⟩) (fun r s' => r = .ok (.ret (.bool true)) ∧ OldK s1.heap s'.heap ∧ s'.os = s1.os ∧ AllBare s'.gens) s1 := by
    intro H hO hS hok hA
    have away : ∀ {b : Addr}, (b = a → False) → H b = none := fun {b} nb => by
      cases q : H b with
      | none => rfl
      | some u => exact (nb (hA b (by rw [q]; simp)).1).elim
    have nsK : ∀ {b : Addr} {f : Str → Option Value}, s1.heap.Ns b f → (hidT s1.heap H).Ns b f := fun {b f} ⟨o, es, ep, e, d, r⟩ => ⟨o, es, ep, hidT_get e (away fun z => by
      subst z
      rw [ha] at e; cases e
      have d' : Data.seq vs.toArray _ = Data.dict es ep := d
      cases d'), d, r⟩
    have hKb : K.In (hidT s1.heap H) := fun b o e => by
      refine hidT_get (KX b o e) ?_
      cases q : H b with
      | none => rfl
      | some u =>
        obtain ⟨z1, z2⟩ := hA b (by rw [q]; simp)
        rw [z1, z2] at e; cases e
    obtain ⟨mc, h1, h2⟩ := hlim
    have e0 : Env0 P w K mg (hidT s1.heap H) callerA [] s1 H :=
      ⟨rfl, ⟨hKb, nsK hns, ⟨mb, nsK hb, hbb⟩, ⟨mc, nsK h1, h2⟩⟩, fun b o e => of_hidT e, Nat.le_of_eq (hidT_size _ _), trivial, fun b hb => absurd (show b ∈ ([] : List Addr) from hb) (by simp), hok, .of_eq hg⟩
    have sp : spM K [x].length m [.ref a] H (fun v _ => v = .bl true) E0 := by
      refine ⟨_, H, _, _, rfl, sr_script hS, hm ns hn, fun v H' G' r => ?_⟩
      obtain ⟨u, q1, q2⟩ := r.dat 1 (.bool true) rfl
      cases q1
      cases q2
      rfl
    refine codeAny_mono ((F _ hKb (nsK hns)).run callerA [] s1 H ⟨[.ref a], []⟩ [.ref a] [.ref a] _ hr rfl e0 (hbind s1 (.ref a)) (.cons rfl .nil) sp) fun r s' h => ?_
    cases r with
    | error e => exact False.elim h
    | ok fl =>
      cases fl with
      | ret u =>
        obtain ⟨v, H', os, bare, un, hok', r', q⟩ := h
        subst q
        obtain rfl : u = Value.bool true := r'
        refine ⟨rfl, OldK.of_keep fun b o e => ?_, os, bare⟩
        cases q : H b with
        | none => exact un.keep b o e q (fun z => absurd (show b ∈ ([] : List Addr) from z) (by simp)) (by simp)
        | some u =>
          rcases hO b with z | ⟨ob, xs, z⟩
          · rw [q] at z; cases z
          · obtain ⟨e1, _⟩ := hok b _ z
            obtain ⟨e2, _⟩ := hok' b _ (un.frzs b ob _ z)
            rw [e] at e1; cases e1
            exact e2
      | next => exact False.elim h
      | brk => exact False.elim h
      | cont => exact False.elim h
  cases hk : K.lookup a with
  | some o =>
    have e := KX a o hk
    rw [ha] at e
    cases e
    exact key (fun _ => none) (fun _ => .inl rfl) (.inr ⟨_, vs.toArray, _, hk, rfl, rfl, rfl, by rw [List.size_toArray, lenV]; exact hl, by simpa using rv⟩) (fun b u z => by cases z) fun b z => absurd rfl z
  | none =>
    have hit : ∀ {b : Addr} {u : HO}, (if b = a then some (HO.frz { cls := .type "list", data := .seq vs.toArray } (.lst (ns.map V.int))) else none) = some u → b = a ∧ u = HO.frz { cls := .type "list", data := .seq vs.toArray } (.lst (ns.map V.int)) := fun {b u} z => by
      by_cases q : b = a
      · rw [if_pos q] at z; cases z; exact ⟨q, rfl⟩
      · rw [if_neg q] at z; cases z
    refine key (fun b => if b = a then some (.frz { cls := .type "list", data := .seq vs.toArray } (.lst (ns.map V.int))) else none) (fun b => ?_) (.inl (.inr ⟨_, if_pos rfl⟩)) (fun b u z => ?_) fun b z => ⟨?_, hk⟩
    · by_cases q : b = a
      · exact .inr ⟨_, _, if_pos q⟩
      · exact .inl (if_neg q)
    · obtain ⟨rfl, rfl⟩ := hit z
      exact ⟨ha, by rw [List.length_map]; exact hl, vs, _, rv, ha⟩
    · by_cases q : b = a
      · exact q
      · exact absurd (if_neg q) z
end
/-- the end: the law's def over every base -/
theorem walkG {l : PySem.W.OpenLaw} {n k : Nat} {q : Program} {loose : List Str} {XP : (Str → Option Value) → Heap → Prop} {YP : World → Heap → Prop} {d : DefRec} {K : Params → PySem.W.Frag} {m : Fn} {x : Str}
    (hn : l.most = some n) (hn2 : n ≤ sizeLine) (hdf : d.params.defaults = []) (hr : Room k callerA) (hY : ∀ (w : World) (h : Heap), YP w h → (K w.params).In h)
    (F : ∀ (w : World) (mg : Str → Option Value) (fa : Addr) (h : Heap), (K w.params).In h → h.Ns mainGlobals mg → mg d.name = some (.ref fa) →
      ∃ fd : FuncData, (∀ (s : Shared) (u : Value), BindsTo s fd ⟨[u], []⟩ [(x, u)]) ∧ ∀ base : Heap, (K w.params).In base → base.Ns mainGlobals mg → FnG l.prog w (K w.params) mg base k fa fd [x] m)
    (hm : LawM n m) : PySem.W.WalkO q loose XP YP l.row.toRowW d [] (fun f vs => PySem.call f vs) := by
  refine Att.attach_call hn hdf fun w s0 s1 mg mb fa o pm cd doc a vs ns G Y ho hd hcd hmg hobj hints hlen hg => ?_
  obtain ⟨fd, hb, hF⟩ := F w mg fa _ (hY w _ Y) G.T.g hmg
  exact law_callG (hY w _ Y) G.T.g G.T.b G.T.builtins G.T.nolimit hg hobj hints (Nat.le_trans hlen hn2) hlen hr hF hb hm
end DL

set_option Elab.async false
set_option linter.all false
set_option maxRecDepth 100000
set_option maxHeartbeats 4000000
/-! DL, part 13: empty dicts; calls by name. -/
namespace DL
open PySem PySem.Spec PyProof.Rows L2

def sDict0 : ES := fun S => some (.dat (.dict []), S)
section
variable {X : Cx} {K : PySem.W.Frag} {pos : Pos}
theorem sem_dict0 : SemE K tDNewK sDict0 := fun F S σ H G o S' r ef Q k => by
  cases ef
  intro p hp
  have px := PX.laid (o := .dK []) r.gh hp
  exact k _ _ _ (r.ext px) px.gg (.dic (.inl upd_same) .nil)
theorem se_dict0 : SE X K (.Dict [] [] pos) tDNewK sDict0 := ⟨pe_dnewK, sem_dict0⟩
theorem kwb {x qual : Str} {st : Stmt} {f : Addr} {fd : FuncData} {ps ks : List Str} {pm : List Nat} (F : Fun K x qual st f fd)
    (h : ∀ (kV doc pm' : Value) (an : Option Addr) (cdv ct : Value) (us ws : List Value), us.length + ks.length = ps.length → ws.length = ks.length → bindArgs (PySem.W.fnOf x qual (defArgs st) (defBody st) (defScope st) .none kV doc pm' an cdv ct) ⟨us, ks.zip ws⟩ = pure (ps.zip (perm pm (us ++ ws)))) : KwB K fd ps ks pm := by
  obtain ⟨oc, od, kV, doc, pm', an, cdv, ct, osl, rfl, lk, hcd⟩ := F.ex
  exact fun s us ws _ h1 h2 => .of_eq (h kV doc pm' an cdv ct us ws h1 h2)
end

/-! ### a call whose one argument is a new list that the def may change -/
theorem SR.pop {K : PySem.W.Frag} {F : Fr} {S : List SD} {σ : L2.St} {H G : Hp} {t : SD} {o : Option V} (r : SR K F (S ++ [t]) (σ ++ [o]) H G) : SR K F S σ H G := by
  have L : σ.length = S.length := by simpa using r.len
  have inS : ∀ {i : Nat} {s : SD}, S[i]? = some s → (S ++ [t])[i]? = some s ∧ (σ ++ [o])[i]? = σ[i]? := fun {i s} h => by
    have hi := (List.getElem?_eq_some_iff.mp h).1
    exact ⟨by rw [List.getElem?_append_left hi]; exact h, List.getElem?_append_left (by omega)⟩
  refine ⟨L, r.g0, r.gh, r.new, r.keep, r.live, fun i x e => ?_, fun i b xs e => ?_, fun i j a b1 x1 b2 x2 e1 e2 e3 e4 => ?_⟩
  · obtain ⟨h1, h2⟩ := inS e
    rw [← h2]; exact r.dat i x h1
  · obtain ⟨h1, h2⟩ := inS e
    rw [← h2]; exact r.own i b xs h1
  · obtain ⟨h1, h2⟩ := inS e1
    obtain ⟨h3, h4⟩ := inS e2
    rw [← h2] at e3
    rw [← h4] at e4
    exact r.sep i j a b1 x1 b2 x2 h1 h3 e3 e4
def onlyD : SD → Option PyData
  | .d x => some x
  | _ => none
def sCallF (m : Fn) (fl : LS) : ES := fun S => (fl S).bind fun p => (m [.own true p.1]).bind fun q => (onlyD q.1).map fun x => (.dat x, p.2)
theorem sem_callF {K : PySem.W.Frag} {te : TE} {fl : LS} {m : Fn} (h : SemL K te fl) : SemE K (tCallG (spM K 1 m) (tCons te tNil)) (sCallF m fl) := by
  intro F S σ H G o S' r ef Q k
  obtain ⟨⟨xs, S1⟩, e1, ef⟩ := Option.bind_eq_some_iff.mp ef
  obtain ⟨⟨rs, Dl'⟩, e2, ef⟩ := Option.bind_eq_some_iff.mp ef
  obtain ⟨x, e3, e4⟩ := Option.map_eq_some_iff.mp ef
  cases e4
  have hrs : rs = .d x := by
    cases rs with
    | d y => cases e3; rfl
    | _ => cases e3
  subst hrs
  refine h F S σ H G xs _ r e1 _ fun p vs H1 G1 r1 g1 f0 fg fa hh ha => ?_
  have L1 : σ.length = S1.length := r1.len
  have rp := r1.pushO f0 fg fa hh ha
  refine ⟨[.own true xs], G1, .d x, Dl', rfl, ?_, e2, fun v H' G' r' => ?_⟩
  · refine ⟨rfl, .refl _, r1.gh, fun b h => .inl h, fun b o h _ => h, fun b h => h, fun i y e => ?_, fun i b ys e => ?_, fun i j c b1 x1 b2 x2 q1 q2 _ _ => ?_⟩
    · cases i with
      | zero => cases e
      | succ i => simp at e
    · cases i with
      | zero => cases e; exact ⟨p, vs, rfl, fg, hh, ha, fun _ => ⟨⟨0, true, xs, rfl, rfl⟩, rfl⟩, fun q => by cases q⟩
      | succ i => simp at e
    · cases i with
      | zero => cases j with
        | zero => rfl
        | succ j => simp at q2
      | succ i => simp at q1
  · have hB : ∀ a, (Fr.B ⟨H1, G1, [.own true xs], [V.ref p].map some⟩ a) → a = p := fun a ⟨i, b, ys, q1, q2⟩ => by
      cases i with
      | zero => cases q2; rfl
      | succ i => simp at q1
    have atP : (S1 ++ [SD.own false xs])[S1.length]? = some (.own false xs) := by simp
    have atV : (σ ++ [some (V.ref p)])[S1.length]? = some (some (.ref p)) := by rw [← L1]; simp
    have rb : SR K F (S1 ++ [.un]) (σ ++ [some (.ref p)]) H' G' := by
      refine rp.back r' rfl rfl (fun a hb => ?_) (by simp) (fun j y e => ?_) fun j b ys e => ?_
      · rw [hB a hb]; exact ⟨S1.length, false, xs, atP, atV⟩
      · by_cases hj : j < S1.length
        · rw [List.getElem?_append_left hj] at e ⊢; exact e
        · rw [List.getElem?_append_right (by omega)] at e
          cases z : j - S1.length with
          | zero => rw [z] at e; cases e
          | succ n => rw [z] at e; simp at e
      · by_cases hj : j < S1.length
        · rw [List.getElem?_append_left hj] at e
          obtain ⟨a, ws, q1, _⟩ := r1.own j b ys e
          have e' : (S1 ++ [SD.own false xs])[j]? = some (.own b ys) := by rw [List.getElem?_append_left hj]; exact e
          refine ⟨⟨ys, e'⟩, a, by rw [List.getElem?_append_left (by omega)]; exact q1, .inr ⟨e', fun hb => ?_⟩⟩
          rw [hB a hb] at q1
          exact fa j b ys e q1
        · rw [List.getElem?_append_right (by omega)] at e
          cases z : j - S1.length with
          | zero => rw [z] at e; cases e
          | succ n => rw [z] at e; simp at e
    have hv : Rp K G' v x := by
      have hl : Dl'.length = 1 := by simpa using r'.len.symm
      obtain ⟨u, q1, q2⟩ := r'.dat 1 x (by rw [← hl]; simp)
      cases q1
      exact q2
    exact k v H' G' rb.pop (g1.trans r'.g0) hv
section
variable {X : Cx} {K : PySem.W.Frag} {k : Nat} {f : Addr} {fd : FuncData} {ps : List Str} {m : Fn} {x : Str} {p pos : Pos} {e : Expr} {te : TE} {fl : LS}
theorem se_callF (hK : X.K = K) (C : Cal X.prog X.w K X.mg X.base k x ps m f fd) (hr : Room k X.A) (hgd : X.A.guards = some []) (ha : SL X K e te fl) (hp : ps.length = 1 := by rfl) (hg : Gl X x := by rfl) (hdb : (x == ("__debug__" : Str)) = false := by decide)
    (he : starEach [e] X.env = (false, eval e X.env) :: starEach [] X.env := by rfl) (hpl : (backTo pos (starEach [] X.env)).any (·.1) = false := by rfl) : SE X K (.Call (.Name x p) [e] [] pos) (tCallG (spM K 1 m) (tCons te tNil)) (sCallF m fl) := by
  have h := pe_callG hK C hr hgd (pa_cons ha.p pa_nil he) hg hdb he hpl (pos := pos) (p := p)
  rw [hp] at h
  exact ⟨h, sem_callF ha.ok⟩
end
end DL

set_option Elab.async false
set_option linter.all false
set_option maxRecDepth 100000
set_option maxHeartbeats 4000000
/-! DL, part 14: sorted({k: v for ..}), keys ints. -/
namespace DL
open PySem PySem.Spec PyProof.Rows L2
def rSortedDI : List V → Hp → VK → Prop := fun xs H Q => ∃ (a : Addr) (kvs : List (Key × V)) (ks : List Int), xs = [.ref a] ∧ Rd H a (.dK kvs) ∧ kvs.map (·.1) = ks.map Sum.inl ∧ ks.length < 64 ∧
    ∀ (ys : List Int) (p : Addr), ys.Perm ks → ys.Pairwise (· ≤ ·) → H p = none → Q (.ref p) (upd H p (.lst (ys.map V.int)))
def sSDC (vs : List Nat) (fi : LS) (gs : GS) (fd : DS) : LS := fun S => (sLC vs fi gs sYes fd S).bind fun p => (dInts p.1).bind fun ns => if (setI ns).length < 64 then some ((setI ns).map .int, p.2) else none
/-- the keys ds, each once, of the values ns -/
def KsOf (kvs : List (Key × V)) (ns : List Int) : Prop := ∃ ds : List Int, kvs.map (·.1) = ds.map Sum.inl ∧ ds.Nodup ∧ ∀ k, k ∈ ds ↔ k ∈ ns
theorem KsOf.nil : KsOf [] [] := ⟨[], rfl, .nil, fun _ => by simp⟩
theorem KsOf.put {kvs : List (Key × V)} {ns : List Int} (h : KsOf kvs ns) (n : Int) (v : V) : KsOf (putK kvs (.inl n) v) (ns ++ [n]) := by
  obtain ⟨ds, h1, h2, h3⟩ := h
  have any : (kvs.any fun kv => decide (kv.1 = Sum.inl n)) = decide (n ∈ ds) := by
    have e : (kvs.any fun kv => decide (kv.1 = Sum.inl n)) = (kvs.map (·.1)).any fun k => decide (k = Sum.inl n) := by
      rw [List.any_map]; rfl
    rw [e, h1, List.any_map, Bool.eq_iff_iff]
    simp only [List.any_eq_true, Function.comp, decide_eq_true_eq]
    constructor
    · rintro ⟨x, hx, e⟩; cases e; exact hx
    · exact fun hx => ⟨n, hx, rfl⟩
  unfold putK
  rw [any]
  by_cases hn : n ∈ ds
  · rw [if_pos (by simpa using hn)]
    refine ⟨ds, ?_, h2, fun k => ?_⟩
    · rw [← h1, List.map_map]
      apply List.map_congr_left
      intro kv _
      show (if kv.1 = Sum.inl n then (kv.1, v) else kv).1 = kv.1
      split <;> rfl
    · rw [h3 k, List.mem_append, List.mem_singleton]
      exact ⟨.inl, fun q => q.elim id fun e => by subst e; exact (h3 k).mp hn⟩
  · rw [if_neg (by simpa using hn)]
    refine ⟨ds ++ [n], by rw [List.map_append, List.map_append, h1]; rfl, ?_, fun k => ?_⟩
    · rw [List.nodup_append]
      exact ⟨h2, by simp, fun a ha b hb e => by rw [List.mem_singleton] at hb; subst hb; subst e; exact hn ha⟩
    · rw [List.mem_append, List.mem_append, h3 k]
section
variable {K : PySem.W.Frag} {wi : TI} {g : TG} {te tv : TE} {vs ix : List Nat} {fi : LS} {gs : GS} {fd : DS} {bv : Bool}
theorem sem_sdc (hi : SemI K wi fi) (hg : SemG K g ix gs) (hix : ∀ i ∈ ix, i ∈ vs) (he : SemD K te fd) : SemL K (tCB rSortedDI (tCons (tDc wi g tYes te (tC (.bl bv)) vs) tNil)) (sSDC vs fi gs fd) := by
  intro F S σ H G outI S' r e Q k
  obtain ⟨⟨out, S0⟩, e0, e⟩ := Option.bind_eq_some_iff.mp e
  obtain ⟨ns, en, e⟩ := Option.bind_eq_some_iff.mp e
  split at e
  case isFalse => cases e
  rename_i h64
  cases e
  obtain ⟨⟨xs, S1⟩, e1, e2⟩ := Option.bind_eq_some_iff.mp e0
  have e2 : (if xs.length < 100000 then lcGo vs gs sYes fd xs S1 else none) = some (out, S0) := e2
  split at e2
  · rename_i hlen
    have ho := dInts_some en
    unfold tCB tCons tDc
    refine hi F S σ H G xs S1 r e1 _ fun J H1 G1 r1 g1 wk D hD => ?_
    obtain ⟨f0, fg, fa⟩ := r1.fresh hD
    refine ⟨fun i m H' => i + m = xs.length ∧ ∃ T G' kvs done rest, SR K F T σ H' G' ∧ Ex G1 G' ∧ Apart T σ D ∧ G' D = none ∧ H' D = some (.dK kvs) ∧ KsOf kvs done ∧ kvs.length ≤ i ∧ lcGo vs gs sYes fd (xs.drop i) T = some (rest, S0) ∧ done.map PyData.int ++ rest = out,
      ⟨xs.length, by omega, S1, G1, [], [], out, r1.ext (PX.side r1.gh hD), .refl _, fa, fg, upd_same, .nil, by simp, by simpa using e2, rfl⟩, fun i m H' ⟨hm, T, G', kvs, done, rest, r', x', ap, gD, hh, ha, hl, ef, eo⟩ => ?_⟩
    obtain ⟨w1, w2⟩ := wk G' H' x' r'.gh i
    by_cases hi : i < xs.length
    · obtain ⟨go, yl⟩ := w1 hi
      have ed : xs.drop i = xs[i] :: xs.drop (i + 1) := List.drop_eq_getElem_cons hi
      rw [ed] at ef
      obtain ⟨S2, q1, ef⟩ := Option.bind_eq_some_iff.mp ef
      have ef : ((fd S2).bind fun q => (lcGo vs gs sYes fd (xs.drop (i + 1)) (unbGo vs 0 T q.2)).map fun z => (q.1 :: z.1, z.2)) = some (rest, S0) := ef
      obtain ⟨⟨y, S4⟩, q3, ef⟩ := Option.bind_eq_some_iff.mp ef
      obtain ⟨⟨rest', S5⟩, q4, q5⟩ := Option.map_eq_some_iff.mp ef
      cases q5
      have hy : ∃ n : Int, y = .int n := by
        have : y ∈ ns.map PyData.int := by rw [← ho, ← eo]; simp
        obtain ⟨n, _, h⟩ := List.mem_map.mp this
        exact ⟨n, h.symm⟩
      obtain ⟨n, rfl⟩ := hy
      refine .inr ⟨go, fun H2 => ∃ T G' kvs done rest, SR K F T σ H2 G' ∧ Ex G1 G' ∧ Apart T σ D ∧ G' D = none ∧ H2 D = some (.dK kvs) ∧ KsOf kvs done ∧ kvs.length ≤ i + 1 ∧ lcGo vs gs sYes fd (xs.drop (i + 1)) T = some (rest, S5) ∧ done.map PyData.int ++ rest = out,
        fun H2 hN => ⟨m - 1, by omega, by omega, hN⟩, fun v H2 hy => ?_⟩
      obtain ⟨G2, x, hx, px, hr⟩ := yl v H2 hy
      rw [List.getElem?_eq_getElem hi] at hx
      cases hx
      have r2 : SR K F T σ H2 G2 := r'.ext px
      have gD2 : G2 D = none := by
        cases z : G2 D with
        | none => rfl
        | some u =>
          rcases px.new D (by rw [z]; simp) with q | q
          · exact absurd gD q
          · rw [hh] at q; cases q
      have hh2 : H2 D = some (.dK kvs) := px.hh D _ hh
      refine hg (Fr.blk vs T σ H2 G2) (borGo vs 0 T) (wipe σ vs) H2 G2 v _ S2 (r2.sub vs) hr q1 _ fun σ3 H3 G3 r3 g3 b3 => ⟨?_, ?_⟩
      · have b4 := b3.mono hix
        exact (wipe_ext (fun i hi => ((Bt.wiped.trans b4).2 i hi)) (Bt.wiped.trans b4).1).symm
      · show te σ3 H3 _
        refine he _ S2 σ3 H3 G3 (.int n) S4 r3 q3 _ fun w H5 G5 r5 g5 hy5 => ?_
        cases hy5
        obtain ⟨hD5, gD5⟩ := r2.aside r5 hh2 gD2 ap
        have x5 : Ex G1 G5 := ((x'.trans px.gg).trans g3).trans g5
        have lk := length_putK kvs (Sum.inl n) (V.bl bv)
        refine ⟨kvs, .inl n, rfl, hD5, szl (by omega), unbGo vs 0 T S4, G5, putK kvs (.inl n) (.bl bv), done ++ [n], rest', (r2.unsub r5).side f0 gD5 (apart_unb ap), x5, apart_unb ap, gD5, upd_same, ha.put n _, by omega, q4, by rw [← eo]; simp⟩
    · refine .inl ⟨w2 (by omega), ?_⟩
      rw [List.drop_eq_nil_of_le (by omega)] at ef
      cases ef
      rw [List.append_nil] at eo
      have hdn : done = ns := by
        have : done.map PyData.int = ns.map PyData.int := eo.trans ho
        exact (List.map_inj_right (fun a b h => by cases h; rfl)).mp this
      subst hdn
      obtain ⟨ds, k1, k2, k3⟩ := ha
      have hlen : ds.length = (setI done).length := setI_count k2 k3
      show rSortedDI [V.ref D] _ Q
      refine ⟨D, kvs, ds, rfl, .inl hh, k1, by rw [hlen]; exact h64, fun ys p pm so hp => ?_⟩
      have nd : ys.Nodup := pm.nodup_iff.mpr k2
      have hs : ys = setI done := by
        refine strict_unique ?_ (setI_sorted done) fun k => by rw [pm.mem_iff, k3 k, setI_mem]
        have := List.pairwise_and_iff.mpr ⟨so, nd⟩
        exact this.imp fun h => by omega
      subst hs
      obtain ⟨f0', fg', fa'⟩ := r'.fresh hp
      exact k p _ _ _ (r'.ext (PX.side r'.gh hp)) (g1.trans x') f0' fg' fa' upd_same (RpAll.of_ints _)
  · cases e2
end
section
variable {X : Cx} {K : PySem.W.Frag} {e tg iter : Expr} {pos : Pos} {te : TE} {fd : DS} {fl : LS} {scope : Scope} {spos : Pos} {wi : TI} {g : TG} {ix : List Nat} {gs : GS}
theorem sl_sdc {p1 q1 : Pos} {bv : Bool} {vpos : Pos} {vk} (own : List (Str × Nat)) (vs : List Nat) (hc : X.calm = true) (hN : X.N.Nodup) (hm1 : X.mg "sorted" = none) (hb1 : bootBuiltins "sorted" = some (.builtin "sorted")) (hi : SI X K tg iter wi fl) (ok : blkC X.N X.env.scope scope own = true)
    (hg : ∀ (s : Shared) (H : Hp) (C : Addr) (cl : List (Str × Addr)) (fp : List Addr), SG (X.blk s H scope (compEnvC scope cl C X.env) fp) K tg g ix gs)
    (he : ∀ (s : Shared) (H : Hp) (C : Addr) (cl : List (Str × Addr)) (fp : List Addr), SDt (X.blk s H scope (compEnvC scope cl C X.env) fp) K e te fd) (hg1 : Gl X "sorted" := by rfl) (hv : own.map (·.2) = vs := by rfl) (hix : ∀ i ∈ ix, i ∈ vs := by decide) (hs : ∀ x, foldedSetIterable iter X.env x = pure x := by intro _; rfl)
    (he2 : starEach [.DictComp e (.Constant (.bool bv) vk vpos) [⟨tg, iter, [], 0⟩] scope pos] X.env = (false, eval (.DictComp e (.Constant (.bool bv) vk vpos) [⟨tg, iter, [], 0⟩] scope pos) X.env) :: starEach [] X.env := by rfl) (hpl2 : (backTo q1 (starEach [] X.env)).any (·.1) = false := by rfl) :
    SL X K (.Call (.Name "sorted" p1) [.DictComp e (.Constant (.bool bv) vk vpos) [⟨tg, iter, [], 0⟩] scope pos] [] q1) (tCB rSortedDI (tCons (tDc wi g tYes te (tC (.bl bv)) vs) tNil)) (sSDC vs fl gs fd) := by
  subst hv
  have s0 : Shared := X.s_0
  refine ⟨?_, sem_sdc hi.ok (hg s0 X.H_0 0 [] []).ok hix (he s0 X.H_0 0 [] []).ok⟩
  exact pe_callB (call_sortedDI hc) hg1 hm1 hb1 (pa_cons (pe_dc hc hN hi.p (blkOk_by ok) (fun s H C cl fp => (hg s H C cl fp).p) (fun s H C cl fp => pts_nil) (fun s H C cl fp => (he s H C cl fp).p) (fun s H C cl fp => pe_bl) hs) pa_nil he2) (by decide) (by decide) he2 hpl2
end
end DL

set_option Elab.async false
set_option linter.all false
set_option maxRecDepth 100000
set_option maxHeartbeats 4000000
/-! DL, part 15: three names at once; lists in lists that are changed in their depth (trees). -/
namespace DL
open PySem PySem.Spec PyProof.Rows L2
section
variable {X : Cx} {K : PySem.W.Frag} {pos : Pos} {tA : TA} {fs : AS} {i j l : Nat} {x y z : Str}
theorem ss_par3 {a b c : Expr} {px py pz pt : Pos} {kt k2 pt2} (hc : X.calm = true) (hN : X.N.Nodup) (hij : i ≠ j) (hil : i ≠ l) (hjl : j ≠ l) (ha : SA X K [a, b, c] tA fs) (hi : X.N[i]? = some x := by rfl) (hj : X.N[j]? = some y := by rfl) (hl : X.N[l]? = some z := by rfl)
    (hx : X.env.scope.names.lookup x = some .local := by rfl) (hy : X.env.scope.names.lookup y = some .local := by rfl) (hz : X.env.scope.names.lookup z = some .local := by rfl)
    (hw : swappedStores [.Tuple [.Name x px, .Name y py, .Name z pz] kt pt] (.Tuple [a, b, c] k2 pt2) X.env = pure (some [x, y, z]) := by rfl)
    (hs : swapsWithSole [.Tuple [.Name x px, .Name y py, .Name z pz] kt pt] (.Tuple [a, b, c] k2 pt2) pos.line X.env = pure false := by rfl) :
    SS X K (.Assign [.Tuple [.Name x px, .Name y py, .Name z pz] kt pt] (.Tuple [a, b, c] k2 pt2) pos) (tPar3 i j l tA) (sPar3 i j l fs) := ⟨ps_par3 hc hN hi hj hl hij hil hjl hx hy hz ha.p hw hs, sem_par3 ha.ok⟩
end

/-! ### trees: a list of its own of lists of its own ..; n: how deep; fp: where the lists lie -/
section
variable (K : PySem.W.Frag) (G H : Hp)
mutual
inductive Tr : Nat → Addr → PyData → List Addr → Prop
  | leaf {a : Addr} {vs : List V} {xs : List PyData} : H a = some (.lst vs) → RpAll K G vs xs → Tr 0 a (.list xs) [a]
  | node {n : Nat} {a : Addr} {bs : List Addr} {ts : List PyData} {fp : List Addr} : H a = some (.lst (bs.map V.ref)) → Trs n bs ts fp → Tr (n + 1) a (.list ts) (a :: fp)
inductive Trs : Nat → List Addr → List PyData → List Addr → Prop
  | nil {n : Nat} : Trs n [] [] []
  | cons {n : Nat} {b : Addr} {bs : List Addr} {t : PyData} {ts : List PyData} {fp fq : List Addr} : Tr n b t fp → Trs n bs ts fq → Trs n (b :: bs) (t :: ts) (fp ++ fq)
end
end
section
variable {K : PySem.W.Frag} {G H G' H' : Hp}
mutual
theorem Tr.mono (e : Ex G G') : ∀ {n : Nat} {a : Addr} {t : PyData} {fp : List Addr}, (∀ c ∈ fp, ∀ o, H c = some o → H' c = some o) → Tr K G H n a t fp → Tr K G' H' n a t fp
  | _, _, _, _, h, .leaf q r => .leaf (h _ (by simp) _ q) (r.mono e)
  | _, _, _, _, h, .node q r => .node (h _ (by simp) _ q) (Trs.mono e (fun c hc => h c (List.mem_cons_of_mem _ hc)) r)
theorem Trs.mono (e : Ex G G') : ∀ {n : Nat} {a : List Addr} {t : List PyData} {fp : List Addr}, (∀ c ∈ fp, ∀ o, H c = some o → H' c = some o) → Trs K G H n a t fp → Trs K G' H' n a t fp
  | _, _, _, _, _, .nil => .nil
  | _, _, _, _, h, .cons q r => .cons (Tr.mono e (fun c hc => h c (List.mem_append_left _ hc)) q) (Trs.mono e (fun c hc => h c (List.mem_append_right _ hc)) r)
end
mutual
theorem Tr.there : ∀ {n : Nat} {a : Addr} {t : PyData} {fp : List Addr}, Tr K G H n a t fp → ∀ c ∈ fp, ∃ o, H c = some o
  | _, _, _, _, .leaf q _, c, hc => by rw [List.mem_singleton] at hc; subst hc; exact ⟨_, q⟩
  | _, _, _, _, .node q r, c, hc => by
    rcases List.mem_cons.mp hc with rfl | hc
    · exact ⟨_, q⟩
    · exact Trs.there r c hc
theorem Trs.there : ∀ {n : Nat} {a : List Addr} {t : List PyData} {fp : List Addr}, Trs K G H n a t fp → ∀ c ∈ fp, ∃ o, H c = some o
  | _, _, _, _, .nil, c, hc => by cases hc
  | _, _, _, _, .cons q r, c, hc => by
    rcases List.mem_append.mp hc with hc | hc
    · exact Tr.there q c hc
    · exact Trs.there r c hc
end
mutual
theorem Tr.known : ∀ {n : Nat} {a : Addr} {t : PyData} {fp : List Addr}, Tr K G H n a t fp → Ex G G' → (∀ c ∈ fp, G' c = H c) → Rp K G' (.ref a) t
  | _, _, _, _, .leaf q r, e, h => .lst ((h _ (by simp)).trans q) (r.mono e)
  | _, _, _, _, .node q r, e, h => .lst ((h _ (by simp)).trans q) (Trs.known r e fun c hc => h c (List.mem_cons_of_mem _ hc))
theorem Trs.known : ∀ {n : Nat} {a : List Addr} {t : List PyData} {fp : List Addr}, Trs K G H n a t fp → Ex G G' → (∀ c ∈ fp, G' c = H c) → RpAll K G' (a.map V.ref) t
  | _, _, _, _, .nil, _, _ => .nil
  | _, _, _, _, .cons q r, e, h => .cons (Tr.known q e fun c hc => h c (List.mem_append_left _ hc)) (Trs.known r e fun c hc => h c (List.mem_append_right _ hc))
end
theorem Trs.snoc {n : Nat} {b : Addr} {t : PyData} {fq : List Addr} (h : Tr K G H n b t fq) : ∀ {bs : List Addr} {ts : List PyData} {fp : List Addr}, Trs K G H n bs ts fp → Trs K G H n (bs ++ [b]) (ts ++ [t]) (fp ++ fq)
  | _, _, _, .nil => by
    have := Trs.cons h (.nil (K := K) (G := G) (H := H) (n := n))
    rwa [List.append_nil] at this
  | _, _, _, .cons q r => by
    have := Trs.cons q (Trs.snoc h r)
    rwa [← List.append_assoc] at this
theorem Trs.length : ∀ {n : Nat} {bs : List Addr} {ts : List PyData} {fp : List Addr}, Trs K G H n bs ts fp → bs.length = ts.length
  | _, _, _, _, .nil => rfl
  | _, _, _, _, .cons _ r => by simp [r.length]
/-- a tree of a list of trees; what is there when it is another -/
theorem Trs.at {n : Nat} : ∀ {bs : List Addr} {ts : List PyData} {fp : List Addr} {j : Nat} {t : PyData}, Trs K G H n bs ts fp → fp.Nodup → ts[j]? = some t → ∃ b fq, bs[j]? = some b ∧ Tr K G H n b t fq ∧ fq.Nodup ∧ (∀ c ∈ fq, c ∈ fp) ∧
    ∀ (H' : Hp) (t' : PyData), (∀ c, c ∉ fq → H' c = H c) → Tr K G H' n b t' fq → Trs K G H' n bs (ts.set j t') fp
  | _, _, _, _, _, .nil, _, e => by simp at e
  | _, _, _, 0, t, .cons (fp := fp) (fq := fq) q r, nd, e => by
    simp at e; subst e
    have nd' := List.nodup_append.mp nd
    refine ⟨_, fp, rfl, q, nd'.1, fun c hc => List.mem_append_left _ hc, fun H' t' h1 h2 => .cons h2 (r.mono (.refl _) fun c hc o ho => ?_)⟩
    rw [h1 c fun z => nd'.2.2 c z c hc rfl]; exact ho
  | _, _, _, j + 1, t, .cons (fp := fp) (fq := fq) q r, nd, e => by
    have nd' := List.nodup_append.mp nd
    obtain ⟨b, fr, h1, h2, h3, h4, h5⟩ := Trs.at (j := j) (t := t) r nd'.2.1 (by simpa using e)
    refine ⟨b, fr, by simpa using h1, h2, h3, fun c hc => List.mem_append_right _ (h4 c hc), fun H' t' q1 q2 => .cons (q.mono (.refl _) fun c hc o ho => ?_) (h5 H' t' q1 q2)⟩
    rw [q1 c fun z => nd'.2.2 c hc c (h4 c z) rfl]; exact ho
end

/-! ### a statement aside -/
def unbk1 : SD → SD → SD
  | .own b _, .own true xs => .own b xs
  | _, .own true _ => .un
  | _, s => s
def unbK : List SD → List SD → List SD
  | s :: S, s' :: S' => unbk1 s s' :: unbK S S'
  | [], S' => S'.map (unbk1 .un)
  | _, [] => []
theorem unbK_len : ∀ (S S' : List SD), (unbK S S').length = S'.length
  | s :: S, s' :: S' => by simp [unbK, unbK_len S S']
  | [], S' => by simp [unbK]
  | _ :: _, [] => rfl
theorem unbK_get : ∀ (S S' : List SD) (i : Nat), (unbK S S')[i]? = (S'[i]?).map (unbk1 ((S[i]?).getD .un))
  | s :: S, s' :: S', 0 => rfl
  | s :: S, s' :: S', i + 1 => by simpa [unbK] using unbK_get S S' i
  | [], S', i => by simp [unbK]
  | _ :: _, [], i => by simp [unbK]
theorem unbk1_d {s s' : SD} {x : PyData} (h : unbk1 s s' = .d x) : s' = .d x := by
  cases s' with
  | own b ys => cases b <;> cases s <;> cases h
  | _ => cases s <;> exact h
theorem unbk1_own {s s' : SD} {b : Bool} {xs : List PyData} (h : unbk1 s s' = .own b xs) : (∃ ys, s = .own b ys ∧ s' = .own true xs) ∨ (b = false ∧ s' = .own false xs) := by
  cases s' with
  | own c ys =>
    cases c with
    | true => cases s with
      | own d zs => cases h; exact .inl ⟨_, rfl, rfl⟩
      | _ => cases h
    | false => cases s <;> · cases h; exact .inr ⟨rfl, rfl⟩
  | _ => cases s <;> cases h
theorem unbK_d {S S' : List SD} {i : Nat} {x : PyData} (h : (unbK S S')[i]? = some (.d x)) : S'[i]? = some (.d x) := by
  rw [unbK_get] at h
  obtain ⟨s, h1, h2⟩ := Option.map_eq_some_iff.mp h
  rw [h1, unbk1_d h2]
theorem unbK_own {S S' : List SD} {i : Nat} {b : Bool} {xs : List PyData} (h : (unbK S S')[i]? = some (.own b xs)) : (∃ ys, S[i]? = some (.own b ys) ∧ S'[i]? = some (.own true xs)) ∨ (b = false ∧ S'[i]? = some (.own false xs)) := by
  rw [unbK_get] at h
  obtain ⟨s, h1, h2⟩ := Option.map_eq_some_iff.mp h
  rcases unbk1_own h2 with ⟨ys, h3, h4⟩ | ⟨h3, h4⟩
  · refine .inl ⟨ys, ?_, by rw [h1, h4]⟩
    cases q : S[i]? with
    | none => rw [q] at h3; cases h3
    | some u => rw [q] at h3; exact congrArg some h3
  · exact .inr ⟨h3, by rw [h1, h4]⟩
section
variable {K : PySem.W.Frag} {F : Fr} {S S' T : List SD} {σ σ' : L2.St} {H G H' G' : Hp} {fp : List Addr} {n : Nat} {a : Addr} {t : PyData} {vs : List Nat}
theorem SR.unsubK (r : SR K F S σ H G) (r' : SR K (Fr.blk [] S σ H G) S' σ' H' G') : SR K F (unbK S S') σ' H' G' := by
  have nB : ∀ b o, F.H0 b = some o → ¬ F.B b → ¬ (Fr.blk [] S σ H G).B b := fun b o h n q => by
    obtain ⟨j, c, ys, _, h1, h2⟩ := blk_B q
    obtain ⟨a', ws, p1, p2, p3, p4, p5, p6⟩ := r.own j c ys h1
    rw [h2] at p1; cases p1
    cases c with
    | true => exact n (p5 rfl).1
    | false => rw [p6 rfl] at h; cases h
  refine ⟨by rw [r'.len, unbK_len], r.g0.trans r'.g0, r'.gh, fun b h => ?_, fun b o h n => r'.keep b o (r.keep b o h n) (nB b o h n), fun b h => r'.live b (r.live b h), fun i x e => r'.dat i x (unbK_d e), fun i b xs e => ?_, fun i j c b1 x1 b2 x2 e1 e2 e3 e4 => ?_⟩
  · rcases r'.new b h with q | q
    · exact r.new b q
    · have q : H b = none := q
      cases z : F.H0 b with
      | none => exact .inr rfl
      | some o => exact absurd q (r.live b (by rw [z]; simp))
  · rcases unbK_own e with ⟨ys, h1, h2⟩ | ⟨rfl, h2⟩
    · obtain ⟨a1, ws, p1, p2, p3, p4, p5, p6⟩ := r'.own i _ _ h2
      have q1 : (wipe σ [])[i]? = some (some (.ref a1)) := (p5 rfl).2
      have q1 : σ[i]? = some (some (.ref a1)) := q1
      obtain ⟨a2, us, s1, s2, s3, s4, s5, s6⟩ := r.own i _ _ h1
      rw [q1] at s1; cases s1
      exact ⟨a1, ws, p1, p2, p3, p4, s5, s6⟩
    · obtain ⟨a1, ws, p1, p2, p3, p4, p5, p6⟩ := r'.own i _ _ h2
      have q1 : H a1 = none := p6 rfl
      refine ⟨a1, ws, p1, p2, p3, p4, (fun z => by cases z), fun _ => ?_⟩
      cases z : F.H0 a1 with
      | none => rfl
      | some o => exact absurd q1 (r.live a1 (by rw [z]; simp))
  · have own : ∀ {m : Nat} {b : Bool} {xs : List PyData}, (unbK S S')[m]? = some (.own b xs) → ∃ c, S'[m]? = some (.own c xs) := fun {m b xs} e => by
      rcases unbK_own e with ⟨ys, _, h2⟩ | ⟨rfl, h2⟩
      · exact ⟨_, h2⟩
      · exact ⟨_, h2⟩
    obtain ⟨_, z1⟩ := own e1
    obtain ⟨_, z2⟩ := own e2
    exact r'.sep i j c _ _ _ _ z1 z2 e3 e4
/-- hidden objects -/
structure Hid (F : Fr) (S : List SD) (σ : L2.St) (G : Hp) (fp : List Addr) : Prop where
  nd : fp.Nodup
  at_ : ∀ c ∈ fp, G c = none ∧ F.H0 c = none ∧ Apart S σ c
theorem Tr.aside (r : SR K F S σ H G) (hid : Hid F S σ G fp) (tr : Tr K G H n a t fp) (r' : SR K (Fr.blk vs S σ H G) S' σ' H' G') : Tr K G' H' n a t fp ∧ (∀ c ∈ fp, G' c = none) := by
  have h : ∀ c ∈ fp, ∀ o, H c = some o → H' c = some o ∧ G' c = none := fun c hc o ho => r.aside r' ho (hid.at_ c hc).1 (hid.at_ c hc).2.2
  refine ⟨tr.mono r'.g0 fun c hc o ho => (h c hc o ho).1, fun c hc => ?_⟩
  obtain ⟨o, ho⟩ := tr.there c hc
  exact (h c hc o ho).2
theorem Trs.aside {bs : List Addr} {ts : List PyData} (r : SR K F S σ H G) (hid : Hid F S σ G fp) (tr : Trs K G H n bs ts fp) (r' : SR K (Fr.blk vs S σ H G) S' σ' H' G') : Trs K G' H' n bs ts fp ∧ (∀ c ∈ fp, G' c = none) := by
  have h : ∀ c ∈ fp, ∀ o, H c = some o → H' c = some o ∧ G' c = none := fun c hc o ho => r.aside r' ho (hid.at_ c hc).1 (hid.at_ c hc).2.2
  refine ⟨tr.mono r'.g0 fun c hc o ho => (h c hc o ho).1, fun c hc => ?_⟩
  obtain ⟨o, ho⟩ := tr.there c hc
  exact (h c hc o ho).2
theorem Hid.unb (hid : Hid F S σ G fp) (h : ∀ c ∈ fp, G' c = none) : Hid F (unbGo vs 0 S S') σ G' fp := ⟨hid.nd, fun c hc => ⟨h c hc, (hid.at_ c hc).2.1, apart_unb (hid.at_ c hc).2.2⟩⟩
theorem Hid.unbK (r : SR K F S σ H G) (hid : Hid F S σ G fp) (ht : ∀ c ∈ fp, ∃ o, H c = some o) (r' : SR K (Fr.blk [] S σ H G) S' σ' H' G') (h : ∀ c ∈ fp, G' c = none) : Hid F (unbK S S') σ' G' fp := by
  refine ⟨hid.nd, fun c hc => ⟨h c hc, (hid.at_ c hc).2.1, fun i b xs e q => ?_⟩⟩
  rcases unbK_own e with ⟨ys, h1, h2⟩ | ⟨rfl, h2⟩
  · obtain ⟨a1, ws, p1, p2, p3, p4, p5, p6⟩ := r'.own i _ _ h2
    have q1 : σ[i]? = some (some (.ref a1)) := (p5 rfl).2
    rw [q] at p1; cases p1
    exact (hid.at_ c hc).2.2 i _ _ h1 q1
  · obtain ⟨a1, ws, p1, p2, p3, p4, p5, p6⟩ := r'.own i _ _ h2
    rw [q] at p1; cases p1
    have q1 : H c = none := p6 rfl
    obtain ⟨o, ho⟩ := ht c hc
    rw [ho] at q1; cases q1
theorem Hid.ext (hid : Hid F S σ G fp) (p : PX G H G' H') (ht : ∀ c ∈ fp, ∃ o, H c = some o) : Hid F S σ G' fp := by
  refine ⟨hid.nd, fun c hc => ⟨?_, (hid.at_ c hc).2⟩⟩
  cases z : G' c with
  | none => rfl
  | some u =>
    rcases p.new c (by rw [z]; simp) with q | q
    · exact absurd (hid.at_ c hc).1 q
    · obtain ⟨o, ho⟩ := ht c hc
      rw [ho] at q; cases q
end
end DL

set_option Elab.async false
set_option linter.all false
set_option maxRecDepth 100000
set_option maxHeartbeats 4000000
/-! DL, part 16: trees made, trees changed in their depth, a block of statements with a tree. -/
namespace DL
open PySem PySem.Spec PyProof.Rows L2
/-- a tree comes out -/
def SemM (K : PySem.W.Frag) (t : TE) (n : Nat) (f : DS) : Prop := ∀ F S σ H G tr S', SR K F S σ H G → f S = some (tr, S') → ∀ Q : VK, (∀ p H' G' fp, SR K F S' σ H' G' → Ex G G' → Tr K G' H' n p tr fp → Hid F S' σ G' fp → Q (.ref p) H') → t σ H Q
structure SM (X : Cx) (K : PySem.W.Frag) (e : Expr) (t : TE) (n : Nat) (f : DS) : Prop where
  p : PE X e t
  ok : SemM K t n f
/-- a statement that goes on; it changes the slots of ix alone -/
def SemX (K : PySem.W.Frag) (t : TS) (ix : List Nat) (f : List SD → Option (List SD)) : Prop := ∀ F S σ H G S', SR K F S σ H G → f S = some S' → ∀ D : Ends, (∀ σ' H' G', SR K F S' σ' H' G' → Ex G G' → Bt ix σ σ' → D.nx σ' H') → t D σ H
abbrev TSem := List SD → PyData → Option (List SD × PyData)
/-- .. that has a tree at the slot i -/
def SemTS (K : PySem.W.Frag) (i n : Nat) (t : TS) (f : TSem) : Prop := ∀ F S σ H G a tr fp S' tr', SR K F S σ H G → σ[i]? = some (some (.ref a)) → Tr K G H n a tr fp → Hid F S σ G fp → f S tr = some (S', tr') →
  ∀ D : Ends, (∀ σ' H' G', SR K F S' σ' H' G' → Ex G G' → σ'[i]? = some (some (.ref a)) → Tr K G' H' n a tr' fp → Hid F S' σ' G' fp → D.nx σ' H') → t D σ H
section
variable {K : PySem.W.Frag} {te ta tb : TE} {fl : LS} {fd fa fb : DS} {wi : TI} {g : TG} {vs ix : List Nat} {fi : LS} {gs : GS} {n i : Nat}
def mLeaf (fl : LS) : DS := fun S => (fl S).map fun p => (.list p.1, p.2)
theorem sem_mLeaf (h : SemL K te fl) : SemM K te 0 (mLeaf fl) := fun F S σ H G tr S' r e Q k => by
  obtain ⟨⟨xs, S1⟩, e1, e2⟩ := Option.map_eq_some_iff.mp e
  cases e2
  exact h F S σ H G xs _ r e1 _ fun p vs H1 G1 r1 g1 h0 hg ap hh h2 => k p H1 G1 [p] r1 g1 (.leaf hh h2) ⟨by simp, fun c hc => by rw [List.mem_singleton] at hc; subst hc; exact ⟨hg, h0, ap⟩⟩
def mLC (vs : List Nat) (fi : LS) (gs : GS) (fd : DS) : DS := fun S => (sLC vs fi gs sYes fd S).map fun p => (.list p.1, p.2)
theorem sem_mLC (hi : SemI K wi fi) (hg : SemG K g ix gs) (hix : ∀ i ∈ ix, i ∈ vs) (he : SemM K te n fd) : SemM K (tLc wi g tYes te vs) (n + 1) (mLC vs fi gs fd) := by
  intro F S σ H G tr S' r e Q k
  obtain ⟨⟨out, S0⟩, e0, e⟩ := Option.map_eq_some_iff.mp e
  cases e
  obtain ⟨⟨xs, S1⟩, e1, e2⟩ := Option.bind_eq_some_iff.mp e0
  have e2 : (if xs.length < 100000 then lcGo vs gs sYes fd xs S1 else none) = some (out, S0) := e2
  split at e2
  · rename_i hlen
    refine hi F S σ H G xs S1 r e1 _ fun J H1 G1 r1 g1 wk D hD => ?_
    obtain ⟨f0, fg, fa⟩ := r1.fresh hD
    refine ⟨fun i m H' => i + m = xs.length ∧ ∃ T G' bs fp done rest, SR K F T σ H' G' ∧ Ex G1 G' ∧ Hid F T σ G' (D :: fp) ∧ H' D = some (.lst (bs.map V.ref)) ∧ Trs K G' H' n bs done fp ∧ done.length ≤ i ∧ lcGo vs gs sYes fd (xs.drop i) T = some (rest, S0) ∧ done ++ rest = out,
      ⟨xs.length, by omega, S1, G1, [], [], [], out, r1.ext (PX.side r1.gh hD), .refl _, ⟨by simp, fun c hc => by rw [List.mem_singleton] at hc; subst hc; exact ⟨fg, f0, fa⟩⟩, upd_same, .nil, by simp, by simpa using e2, rfl⟩, fun i m H' ⟨hm, T, G', bs, fp, done, rest, r', x', hid, hh, ha, hl, ef, eo⟩ => ?_⟩
    obtain ⟨w1, w2⟩ := wk G' H' x' r'.gh i
    by_cases hi : i < xs.length
    · obtain ⟨go, yl⟩ := w1 hi
      have ed : xs.drop i = xs[i] :: xs.drop (i + 1) := List.drop_eq_getElem_cons hi
      rw [ed] at ef
      obtain ⟨S2, q1, ef⟩ := Option.bind_eq_some_iff.mp ef
      have ef : ((fd S2).bind fun q => (lcGo vs gs sYes fd (xs.drop (i + 1)) (unbGo vs 0 T q.2)).map fun z => (q.1 :: z.1, z.2)) = some (rest, S0) := ef
      obtain ⟨⟨y, S4⟩, q3, ef⟩ := Option.bind_eq_some_iff.mp ef
      obtain ⟨⟨rest', S5⟩, q4, q5⟩ := Option.map_eq_some_iff.mp ef
      cases q5
      refine .inr ⟨go, fun H2 => ∃ T G' bs fp done rest, SR K F T σ H2 G' ∧ Ex G1 G' ∧ Hid F T σ G' (D :: fp) ∧ H2 D = some (.lst (bs.map V.ref)) ∧ Trs K G' H2 n bs done fp ∧ done.length ≤ i + 1 ∧ lcGo vs gs sYes fd (xs.drop (i + 1)) T = some (rest, S5) ∧ done ++ rest = out,
        fun H2 hN => ⟨m - 1, by omega, by omega, hN⟩, fun v H2 hy => ?_⟩
      obtain ⟨G2, x, hx, px, hr⟩ := yl v H2 hy
      rw [List.getElem?_eq_getElem hi] at hx
      cases hx
      have r2 : SR K F T σ H2 G2 := r'.ext px
      have tr' : Tr K G' H' (n + 1) D (.list done) (D :: fp) := .node hh ha
      have hid2 : Hid F T σ G2 (D :: fp) := hid.ext px tr'.there
      have tr2 : Tr K G2 H2 (n + 1) D (.list done) (D :: fp) := tr'.mono px.gg fun c _ o ho => px.hh c o ho
      refine hg (Fr.blk vs T σ H2 G2) (borGo vs 0 T) (wipe σ vs) H2 G2 v _ S2 (r2.sub vs) hr q1 _ fun σ3 H3 G3 r3 g3 b3 => ⟨?_, ?_⟩
      · have b4 := b3.mono hix
        exact (wipe_ext (fun i hi => ((Bt.wiped.trans b4).2 i hi)) (Bt.wiped.trans b4).1).symm
      · show te σ3 H3 _
        refine he _ S2 σ3 H3 G3 y S4 r3 q3 _ fun p H5 G5 fq r5 g5 tr5 hid5 => ?_
        obtain ⟨tr6, gn⟩ := tr2.aside r2 hid2 r5
        have x5 : Ex G1 G5 := ((x'.trans px.gg).trans g3).trans g5
        have hid6 := hid2.unb (vs := vs) (S' := S4) gn
        cases tr6 with
        | node hh6 ha6 =>
          rename_i bs6
          have hn : ∀ c ∈ fq, H2 c = none := fun c hc => (hid5.at_ c hc).2.1
          have dis : ∀ c ∈ D :: fp, c ∉ fq := fun c hc hq => by
            obtain ⟨o, ho⟩ := tr2.there c hc
            rw [hn c hq] at ho; cases ho
          have hD5 := hid6.at_ D (by simp)
          have nd6 := List.nodup_cons.mp hid6.nd
          have r7 : SR K F (unbGo vs 0 T S4) σ (upd H5 D (.lst (bs6.map V.ref ++ [.ref p]))) G5 := (r2.unsub r5).side hD5.2.1 hD5.1 hD5.2.2
          refine ⟨bs6.map V.ref, hh6, szl (by rw [List.length_map, ha6.length]; omega), unbGo vs 0 T S4, G5, bs6 ++ [p], fp ++ fq, done ++ [y], rest', r7, x5, ?_, ?_, ?_, by simp; omega, q4, by rw [← eo]; simp⟩
          · refine ⟨?_, fun c hc => ?_⟩
            · rw [List.nodup_cons, List.nodup_append, List.mem_append]
              exact ⟨fun z => z.elim nd6.1 (dis D (by simp)), nd6.2, hid5.nd, fun a ha b hb e => by subst e; exact dis a (List.mem_cons_of_mem _ ha) hb⟩
            · rw [← List.cons_append] at hc
              rcases List.mem_append.mp hc with hc | hc
              · exact hid6.at_ c hc
              · obtain ⟨z0, _, z2⟩ := r2.fresh (hn c hc)
                exact ⟨(hid5.at_ c hc).1, z0, apart_unb z2⟩
          · rw [upd_same, List.map_append]; rfl
          · have m6 : Trs K G5 (upd H5 D (.lst (bs6.map V.ref ++ [.ref p]))) n bs6 done fp := ha6.mono (.refl _) fun c hc o ho => by
              rw [upd_ne fun z => nd6.1 (by rw [← z]; exact hc)]; exact ho
            have m7 : Tr K G5 (upd H5 D (.lst (bs6.map V.ref ++ [.ref p]))) n p y fq := tr5.mono (.refl _) fun c hc o ho => by
              rw [upd_ne fun z => dis D (by simp) (by rw [← z]; exact hc)]; exact ho
            exact m6.snoc m7
    · refine .inl ⟨w2 (by omega), ?_⟩
      rw [List.drop_eq_nil_of_le (by omega)] at ef
      cases ef
      rw [List.append_nil] at eo
      subst eo
      exact k D H' G' (D :: fp) r' (g1.trans x') (.node hh ha) hid
  · cases e2
def mTwo (fa fb : DS) : DS := fun S => (fa S).bind fun p => (fb (borGo [] 0 p.2)).map fun q => (.list [p.1, q.1], unbGo [] 0 p.2 q.2)
theorem sem_mTwo (h1 : SemM K ta n fa) (h2 : SemM K tb n fb) : SemM K (tLst (tCons ta (tCons tb tNil))) (n + 1) (mTwo fa fb) := by
  intro F S σ H G tr S' r e Q k
  obtain ⟨⟨x, S1⟩, e1, e⟩ := Option.bind_eq_some_iff.mp e
  obtain ⟨⟨y, S2⟩, e2, e⟩ := Option.map_eq_some_iff.mp e
  cases e
  refine h1 F S σ H G x S1 r e1 _ fun p H1 G1 fp r1 g1 t1 hid1 => ?_
  refine h2 (Fr.blk [] S1 σ H1 G1) (borGo [] 0 S1) σ H1 G1 y S2 (r1.sub []) e2 _ fun q H2 G2 fq r2 g2 t2 hid2 => ?_
  refine ⟨by show 2 ≤ sizeLine; exact sz (by omega), fun z hz => ?_⟩
  obtain ⟨t3, gn⟩ := t1.aside r1 hid1 r2
  have hid3 := hid1.unb (vs := []) (S' := S2) gn
  have r3 := r1.unsub r2
  obtain ⟨f0, fg, fa⟩ := r3.fresh hz
  have px := PX.side (o := .lst [V.ref p, V.ref q]) r3.gh hz
  have hn : ∀ c ∈ fq, H1 c = none := fun c hc => (hid2.at_ c hc).2.1
  have nz1 : ∀ c ∈ fp, c ≠ z := fun c hc e => by
    subst e
    obtain ⟨o, ho⟩ := t3.there c hc
    rw [hz] at ho; cases ho
  have nz2 : ∀ c ∈ fq, c ≠ z := fun c hc e => by
    subst e
    obtain ⟨o, ho⟩ := t2.there c hc
    rw [hz] at ho; cases ho
  refine k z _ G2 (z :: (fp ++ (fq ++ []))) (r3.ext px) (g1.trans g2) (.node (bs := [p, q]) upd_same (.cons (t3.mono (.refl _) fun c hc o ho => by rw [upd_ne (nz1 c hc)]; exact ho) (.cons (t2.mono (.refl _) fun c hc o ho => by rw [upd_ne (nz2 c hc)]; exact ho) .nil))) ?_
  rw [List.append_nil]
  refine ⟨?_, fun c hc => ?_⟩
  · rw [List.nodup_cons, List.nodup_append, List.mem_append]
    refine ⟨fun w => w.elim (fun w => nz1 z w rfl) (fun w => nz2 z w rfl), hid3.nd, hid2.nd, fun a ha b hb e => ?_⟩
    subst e
    obtain ⟨o, ho⟩ := t1.there a ha
    rw [hn a hb] at ho; cases ho
  · rcases List.mem_cons.mp hc with rfl | hc
    · exact ⟨fg, f0, fa⟩
    · rcases List.mem_append.mp hc with hc | hc
      · exact hid3.at_ c hc
      · obtain ⟨z0, _, z2⟩ := r1.fresh (hn c hc)
        exact ⟨(hid2.at_ c hc).1, z0, apart_unb z2⟩
/-! ### statements -/
def xAsg (fd : DS) (gs : GS) : List SD → Option (List SD) := fun S => (fd S).bind fun p => gs p.1 p.2
theorem sem_xAsg (h1 : SemD K te fd) (h2 : SemG K g ix gs) : SemX K (tAsg te g) ix (xAsg fd gs) := fun F S σ H G S' r e D h => by
  obtain ⟨⟨x, S1⟩, e1, e2⟩ := Option.bind_eq_some_iff.mp e
  exact h1 F S σ H G x S1 r e1 _ fun v H1 G1 r1 g1 hv => h2 F S1 σ H1 G1 v x S' r1 hv e2 _ fun σ2 H2 G2 r2 g2 b2 => h σ2 H2 G2 r2 (g1.trans g2) b2
def put3S (i j l : Nat) (S : List SD) : List PyData → Option (List SD)
  | [x, y, z] => some (((S.set i (.d x)).set j (.d y)).set l (.d z))
  | _ => none
def xPar3 (i j l : Nat) (fs : AS) : List SD → Option (List SD) := fun S => (sTakeA fs S).bind fun p => put3S i j l p.2 p.1
theorem sem_xPar3 {i j l : Nat} {tA : TA} {fs : AS} (h : SemA K tA fs) : SemX K (tPar3 i j l tA) [i, j, l] (xPar3 i j l fs) := fun F S σ H G S' r e D hD => by
  obtain ⟨⟨xs, S1⟩, e1, e⟩ := Option.bind_eq_some_iff.mp e
  refine take_A h r e1 fun vs H1 G1 r1 g1 hv => ?_
  have e : put3S i j l S1 xs = some S' := e
  unfold put3S at e
  split at e
  · cases e
    cases hv with
    | cons a t => cases t with
      | cons b t => cases t with
        | cons c t =>
          cases t
          exact ⟨_, _, _, rfl, hD _ H1 G1 (((r1.setD i a).setD j b).setD l c) g1 (((Bt.set (by simp)).trans (Bt.set (by simp))).trans (Bt.set (by simp)))⟩
  · cases e
def tsX (f : List SD → Option (List SD)) : TSem := fun S tr => (f (borGo [] 0 S)).map fun S' => (unbK S S', tr)
theorem sem_tsX {t : TS} {f : List SD → Option (List SD)} (h : SemX K t ix f) (hi : i ∉ ix) : SemTS K i n t (tsX f) := fun F S σ H G a tr fp S' tr' r ei t1 hid e D k => by
  obtain ⟨S1, e1, e2⟩ := Option.map_eq_some_iff.mp e
  cases e2
  refine h (Fr.blk [] S σ H G) (borGo [] 0 S) σ H G S1 (r.sub []) e1 D fun σ' H' G' r' g' b' => ?_
  obtain ⟨t2, gn⟩ := t1.aside r hid r'
  exact k σ' H' G' (r.unsubK r') g' ((b'.2 i hi).symm.trans ei) t2 (hid.unbK r t1.there r' gn)
def tsSeq (f g : TSem) : TSem := fun S tr => (f S tr).bind fun p => g p.1 p.2
theorem sem_tsSeq {t u : TS} {f g : TSem} (h1 : SemTS K i n t f) (h2 : SemTS K i n u g) : SemTS K i n (tSeq t u) (tsSeq f g) := fun F S σ H G a tr fp S' tr' r ei t1 hid e D k => by
  obtain ⟨⟨S1, tr1⟩, e1, e2⟩ := Option.bind_eq_some_iff.mp e
  exact h1 F S σ H G a tr fp S1 tr1 r ei t1 hid e1 _ fun σ1 H1 G1 r1 g1 ei1 t1 hid1 => h2 F S1 σ1 H1 G1 a tr1 fp S' tr' r1 ei1 t1 hid1 e2 D fun σ2 H2 G2 r2 g2 ei2 t2 hid2 => k σ2 H2 G2 r2 (g1.trans g2) ei2 t2 hid2
/-! a store in the depth -/
/-- the int that a slot holds -/
def slInt (S : List SD) (j : Nat) : Option Int := match S[j]? with
  | some (.d x) => dIntO x
  | _ => none
theorem slInt_ok {F : Fr} {S : List SD} {σ : L2.St} {H G : Hp} {j : Nat} {k : Int} (r : SR K F S σ H G) (e : slInt S j = some k) : σ[j]? = some (some (.int k)) := by
  unfold slInt at e
  split at e
  · rename_i x hx
    have := dIntO_some e
    subst this
    obtain ⟨v, h1, h2⟩ := r.dat j _ hx
    cases h2
    exact h1
  · cases e
def put1 (k : Int) (x : PyData) : PyData → Option PyData
  | .list xs => (ixN xs.length k).map fun j => .list (xs.set j x)
  | _ => none
def put2 (k l : Int) (x : PyData) : PyData → Option PyData
  | .list ts => (ixN ts.length k).bind fun j => (ts[j]?).bind fun t => (put1 l x t).map fun t' => .list (ts.set j t')
  | _ => none
def put3 (k l m : Int) (x : PyData) : PyData → Option PyData
  | .list ts => (ixN ts.length k).bind fun j => (ts[j]?).bind fun t => (put2 l m x t).map fun t' => .list (ts.set j t')
  | _ => none
section
variable {F : Fr} {S : List SD} {σ : L2.St} {H G : Hp} {a : Addr} {t t' : PyData} {fp : List Addr} {k l m : Int} {x : PyData} {v : V}
/-- at the leaf -/
theorem Tr.put1 (h : Tr K G H 0 a t fp) (e : put1 k x t = some t') (hv : Rp K G v x) : ∃ xs j, H a = some (.lst xs) ∧ ixN xs.length k = some j ∧ fp = [a] ∧ Tr K G (upd H a (.lst (xs.set j v))) 0 a t' fp := by
  cases h with
  | leaf h1 h2 =>
    obtain ⟨j, e1, e2⟩ := Option.map_eq_some_iff.mp e
    cases e2
    exact ⟨_, j, h1, by rw [h2.length]; exact e1, rfl, .leaf upd_same (h2.set hv j)⟩
/-- a step down -/
theorem Tr.step {ts : List PyData} {j : Nat} (h : Tr K G H (n + 1) a (.list ts) fp) (nd : fp.Nodup) (ej : ixN ts.length k = some j) (e : ts[j]? = some t) : ∃ (bs : List Addr) (b : Addr) (fq : List Addr), H a = some (.lst (bs.map V.ref)) ∧ atI (bs.map V.ref) k = some (.ref b) ∧ Tr K G H n b t fq ∧ fq.Nodup ∧ (∀ c ∈ fq, c ∈ fp) ∧
    ∀ (H' : Hp) (t' : PyData), (∀ c, c ∉ fq → H' c = H c) → Tr K G H' n b t' fq → Tr K G H' (n + 1) a (.list (ts.set j t')) fp := by
  cases h with
  | node h1 h2 =>
    have nd' := List.nodup_cons.mp nd
    obtain ⟨b, fq, q1, q2, q3, q4, q5⟩ := h2.at nd'.2 e
    refine ⟨_, b, fq, h1, ?_, q2, q3, fun c hc => List.mem_cons_of_mem _ (q4 c hc), fun H' t' z1 z2 => .node ?_ (q5 H' t' z1 z2)⟩
    · unfold atI
      rw [List.length_map, h2.length, ej]
      simp [q1]
    · rw [z1 a fun z => nd'.1 (q4 a z)]; exact h1
/-- the heap behind a write in a hidden place -/
theorem SR.hidW {c : Addr} {o : HO} (r : SR K F S σ H G) (hid : Hid F S σ G fp) (hc : c ∈ fp) : SR K F S σ (upd H c o) G := r.side (hid.at_ c hc).2.1 (hid.at_ c hc).1 (hid.at_ c hc).2.2
end
/-- x[j1][j2] = e -/
def tsPut2 (i j1 j2 : Nat) (fd : DS) : TSem := fun S tr => (fd (borGo [] 0 S)).bind fun p => (slInt (unbGo [] 0 S p.2) j1).bind fun k => (slInt (unbGo [] 0 S p.2) j2).bind fun l => (put2 k l p.1 tr).map fun tr' => (unbGo [] 0 S p.2, tr')
theorem sem_tsPut2 {j1 j2 : Nat} (hd : SemD K te fd) : SemTS K i 1 (tAsg te (gSub (tOp (rIx K) (tVar i) (tVar j1)) (tVar j2) rSetL)) (tsPut2 i j1 j2 fd) := fun F S σ H G a tr fp S' tr' r ei t1 hid e D kD => by
  obtain ⟨⟨x, S1⟩, e1, e⟩ := Option.bind_eq_some_iff.mp e
  obtain ⟨k, e2, e⟩ := Option.bind_eq_some_iff.mp e
  obtain ⟨l, e3, e⟩ := Option.bind_eq_some_iff.mp e
  obtain ⟨tr2, e5, e6⟩ := Option.map_eq_some_iff.mp e
  cases e6
  refine hd (Fr.blk [] S σ H G) (borGo [] 0 S) σ H G x S1 (r.sub []) e1 _ fun v H1 G1 r' g1 hv => ?_
  obtain ⟨t2, gn⟩ := t1.aside r hid r'
  have hid2 := hid.unb (vs := []) (S' := S1) gn
  have r1 := r.unsub r'
  have s1 := slInt_ok r1 e2
  have s2 := slInt_ok r1 e3
  cases tr with
  | list ts =>
    obtain ⟨j, q1, q2⟩ := Option.bind_eq_some_iff.mp e5
    obtain ⟨t, q3, q4⟩ := Option.bind_eq_some_iff.mp q2
    obtain ⟨t', q5, q6⟩ := Option.map_eq_some_iff.mp q4
    cases q6
    obtain ⟨bs, b, fq, w1, w2, w3, w4, w5, w6⟩ := t2.step hid2.nd q1 q3
    obtain ⟨xs, j', u1, u2, u3, u4⟩ := w3.put1 q5 hv
    subst u3
    refine ⟨_, ei, _, s1, .inl ⟨a, bs.map V.ref, k, .ref b, rfl, rfl, .inl (.inl w1), w2, ?_⟩⟩
    refine ⟨_, s2, b, xs, l, j', rfl, rfl, u1, u2, ?_⟩
    have hb : b ∈ fp := w5 b (by simp)
    refine kD σ _ G1 (r1.hidW hid2 hb) g1 ei (w6 _ _ (fun c hc => upd_ne (by simpa using hc)) u4) hid2
  | _ => cases e5
/-- x[j1][j2][j3] = e -/
def tsPut3 (i j1 j2 j3 : Nat) (fd : DS) : TSem := fun S tr => (fd (borGo [] 0 S)).bind fun p => (slInt (unbGo [] 0 S p.2) j1).bind fun k => (slInt (unbGo [] 0 S p.2) j2).bind fun l => (slInt (unbGo [] 0 S p.2) j3).bind fun m => (put3 k l m p.1 tr).map fun tr' => (unbGo [] 0 S p.2, tr')
theorem sem_tsPut3 {j1 j2 j3 : Nat} (hd : SemD K te fd) : SemTS K i 2 (tAsg te (gSub (tOp (rIx K) (tOp (rIx K) (tVar i) (tVar j1)) (tVar j2)) (tVar j3) rSetL)) (tsPut3 i j1 j2 j3 fd) := fun F S σ H G a tr fp S' tr' r ei t1 hid e D kD => by
  obtain ⟨⟨x, S1⟩, e1, e⟩ := Option.bind_eq_some_iff.mp e
  obtain ⟨k, e2, e⟩ := Option.bind_eq_some_iff.mp e
  obtain ⟨l, e3, e⟩ := Option.bind_eq_some_iff.mp e
  obtain ⟨m, e4, e⟩ := Option.bind_eq_some_iff.mp e
  obtain ⟨tr2, e5, e6⟩ := Option.map_eq_some_iff.mp e
  cases e6
  refine hd (Fr.blk [] S σ H G) (borGo [] 0 S) σ H G x S1 (r.sub []) e1 _ fun v H1 G1 r' g1 hv => ?_
  obtain ⟨t2, gn⟩ := t1.aside r hid r'
  have hid2 := hid.unb (vs := []) (S' := S1) gn
  have r1 := r.unsub r'
  have s1 := slInt_ok r1 e2
  have s2 := slInt_ok r1 e3
  have s3 := slInt_ok r1 e4
  cases tr with
  | list ts =>
    obtain ⟨j, q1, q2⟩ := Option.bind_eq_some_iff.mp e5
    obtain ⟨t, q3, q4⟩ := Option.bind_eq_some_iff.mp q2
    obtain ⟨t', q5, q6⟩ := Option.map_eq_some_iff.mp q4
    cases q6
    obtain ⟨bs, b, fq, w1, w2, w3, w4, w5, w6⟩ := t2.step hid2.nd q1 q3
    cases t with
    | list us =>
      obtain ⟨j0, p1, p2⟩ := Option.bind_eq_some_iff.mp q5
      obtain ⟨t0, p3, p4⟩ := Option.bind_eq_some_iff.mp p2
      obtain ⟨t0', p5, p6⟩ := Option.map_eq_some_iff.mp p4
      cases p6
      obtain ⟨cs, c, fr, v1, v2, v3, v4, v5, v6⟩ := w3.step w4 p1 p3
      obtain ⟨xs, j', u1, u2, u3, u4⟩ := v3.put1 p5 hv
      subst u3
      refine ⟨_, ei, _, s1, .inl ⟨a, bs.map V.ref, k, .ref b, rfl, rfl, .inl (.inl w1), w2, ?_⟩⟩
      refine ⟨_, s2, .inl ⟨b, cs.map V.ref, l, .ref c, rfl, rfl, .inl (.inl v1), v2, ?_⟩⟩
      refine ⟨_, s3, c, xs, m, j', rfl, rfl, u1, u2, ?_⟩
      have hb : c ∈ fp := w5 c (v5 c (by simp))
      refine kD σ _ G1 (r1.hidW hid2 hb) g1 ei (w6 _ _ (fun d hd => upd_ne fun z => hd (by subst z; exact v5 d (by simp))) (v6 _ _ (fun d hd => upd_ne (by simpa using hd)) u4)) hid2
    | _ => cases q5
  | _ => cases e5
/-! a loop -/
def tsForGo (gs : GS) (fb : TSem) : List PyData → TSem
  | [], S, tr => some (S, tr)
  | x :: xs, S, tr => (gs x (borGo [] 0 S)).bind fun S1 => (fb (unbK S S1) tr).bind fun p => tsForGo gs fb xs p.1 p.2
def tsFor (fi : LS) (gs : GS) (fb : TSem) : TSem := fun S tr => (fi (borGo [] 0 S)).bind fun p => tsForGo gs fb p.1 (unbGo [] 0 S p.2) tr
theorem sem_tsFor {tb : TS} {fb : TSem} (hi : SemI K wi fi) (hg : SemG K g ix gs) (hix : i ∉ ix) (hb : SemTS K i n tb fb) : SemTS K i n (tFor wi g tb) (tsFor fi gs fb) := fun F S σ H G a tr fp S' tr' r ei t1 hid e D h => by
  obtain ⟨⟨xs, S1⟩, e1, e2⟩ := Option.bind_eq_some_iff.mp e
  refine hi (Fr.blk [] S σ H G) (borGo [] 0 S) σ H G xs S1 (r.sub []) e1 _ fun J H1 G1 r0 g1 wk => ?_
  obtain ⟨t2, gn⟩ := t1.aside r hid r0
  have hid2 := hid.unb (vs := []) (S' := S1) gn
  have r1 := r.unsub r0
  refine ⟨fun j m σ' H' => j + m = xs.length ∧ ∃ S2 tr2 G', SR K F S2 σ' H' G' ∧ Ex G1 G' ∧ σ'[i]? = some (some (.ref a)) ∧ Tr K G' H' n a tr2 fp ∧ Hid F S2 σ' G' fp ∧ tsForGo gs fb (xs.drop j) S2 tr2 = some (S', tr'), ⟨xs.length, by omega, _, tr, G1, r1, .refl _, ei, t2, hid2, by simpa using e2⟩, fun j m σ' H' ⟨hm, S2, tr2, G', r', x', ei', t', hid', ef⟩ => ?_⟩
  obtain ⟨w1, w2⟩ := wk G' H' x' r'.gh j
  by_cases hj : j < xs.length
  · obtain ⟨go, yl⟩ := w1 hj
    have ed : xs.drop j = xs[j] :: xs.drop (j + 1) := List.drop_eq_getElem_cons hj
    rw [ed] at ef
    obtain ⟨S3, q1, ef⟩ := Option.bind_eq_some_iff.mp ef
    obtain ⟨⟨S4, tr4⟩, q2, ef⟩ := Option.bind_eq_some_iff.mp ef
    refine .inr ⟨go, fun σ2 H2 => ∃ S2 tr2 G', SR K F S2 σ2 H2 G' ∧ Ex G1 G' ∧ σ2[i]? = some (some (.ref a)) ∧ Tr K G' H2 n a tr2 fp ∧ Hid F S2 σ2 G' fp ∧ tsForGo gs fb (xs.drop (j + 1)) S2 tr2 = some (S', tr'), fun σ2 H2 hN => ⟨m - 1, by omega, by omega, hN⟩, fun v H2 hy => ?_⟩
    obtain ⟨G2, x, hx, px, hr⟩ := yl v H2 hy
    rw [List.getElem?_eq_getElem hj] at hx
    cases hx
    have r2 := r'.ext px
    have hid2 := hid'.ext px t'.there
    have t2 := t'.mono px.gg fun c _ o ho => px.hh c o ho
    refine hg (Fr.blk [] S2 σ' H2 G2) (borGo [] 0 S2) σ' H2 G2 v _ S3 (r2.sub []) hr q1 _ fun σ3 H3 G3 r3 g3 b3 => ?_
    obtain ⟨t3, gn3⟩ := t2.aside r2 hid2 r3
    have hid3 := hid2.unbK r2 t2.there r3 gn3
    have x3 : Ex G1 G3 := (x'.trans px.gg).trans g3
    exact hb F _ σ3 H3 G3 a tr2 fp S4 tr4 (r2.unsubK r3) ((b3.2 i hix).symm.trans ei') t3 hid3 q2 _ fun σ4 H4 G4 r4 g4 ei4 t4 hid4 => ⟨S4, tr4, G4, r4, x3.trans g4, ei4, t4, hid4, ef⟩
  · refine .inl ⟨w2 (by omega), ?_⟩
    rw [List.drop_eq_nil_of_le (by omega)] at ef
    cases ef
    exact h σ' H' G' r' (g1.trans x') ei' t' hid'
/-! a block: x = .., statements with the tree, the rest -/
/-- all is known -/
theorem SR.knownAll {F : Fr} {S : List SD} {σ : L2.St} {H G : Hp} {a : Addr} {t : PyData} {fp : List Addr} (r : SR K F S σ H G) (tr : Tr K G H n a t fp) (hid : Hid F S σ G fp) : ∃ G', Ex G G' ∧ SR K F S σ H G' ∧ Rp K G' (.ref a) t := by
  let G' : Hp := fun c => if c ∈ fp then H c else G c
  have eg : Ex G G' := fun c o h => by
    show (if c ∈ fp then H c else G c) = some o
    split
    · rename_i hc; rw [(hid.at_ c hc).1] at h; cases h
    · exact h
  have ne : ∀ {c}, c ∉ fp → G' c = G c := fun {c} h => if_neg h
  have eq : ∀ {c}, c ∈ fp → G' c = H c := fun {c} h => if_pos h
  refine ⟨G', eg, ⟨r.len, r.g0.trans eg, fun b o q => ?_, fun b q => ?_, r.keep, r.live, fun j y q => ?_, fun j b ys q => ?_, r.sep⟩, tr.known eg fun c hc => eq hc⟩
  · by_cases hb : b ∈ fp
    · rw [eq hb] at q; exact q
    · rw [ne hb] at q; exact r.gh b o q
  · by_cases hb : b ∈ fp
    · exact .inr (hid.at_ b hb).2.1
    · rw [ne hb] at q; exact r.new b q
  · obtain ⟨v, q1, q2⟩ := r.dat j y q
    exact ⟨v, q1, q2.mono eg⟩
  · obtain ⟨c, ws, q1, q2, q3, q4, q5⟩ := r.own j b ys q
    refine ⟨c, ws, q1, ?_, q3, q4.mono eg, q5⟩
    rw [ne fun z => (hid.at_ c z).2.2 j _ _ q q1]; exact q2
def sTree (i : Nat) (fm : DS) (ft : TSem) (rest : SSem) : SSem := fun S => (fm S).bind fun p => if i < p.2.length then (ft (p.2.set i .un) p.1).bind fun q => rest (q.1.set i (.d q.2)) else none
theorem sem_tree {t u : TS} {ft : TSem} {f : SSem} (hm : SemM K te n fd) (ht : SemTS K i n t ft) (hr : SemS K u f) : SemS K (tSeq (tAsg te (gName i)) (tSeq t u)) (sTree i fd ft f) := fun F S σ H G out r e D h => by
  obtain ⟨⟨tr, S1⟩, e1, e⟩ := Option.bind_eq_some_iff.mp e
  have e : (if i < S1.length then (ft (S1.set i .un) tr).bind fun q => f (q.1.set i (.d q.2)) else none) = some out := e
  split at e
  case isFalse => cases e
  rename_i hl
  obtain ⟨⟨S2, tr2⟩, e2, e3⟩ := Option.bind_eq_some_iff.mp e
  refine hm F S σ H G tr S1 r e1 _ fun p H1 G1 fp r1 g1 t1 hid1 => ?_
  · have hl' : i < σ.length := by rw [r1.len]; exact hl
    have ei : (σ.set i (some (.ref p)))[i]? = some (some (.ref p)) := List.getElem?_set_self hl'
    have hidS : Hid F (S1.set i .un) (σ.set i (some (.ref p))) G1 fp := ⟨hid1.nd, fun c hc => ⟨(hid1.at_ c hc).1, (hid1.at_ c hc).2.1, fun j b xs q1 q2 => by
      by_cases hj : i = j
      · subst hj; rw [List.getElem?_set_self hl] at q1; cases q1
      · rw [List.getElem?_set_ne hj] at q1 q2
        exact (hid1.at_ c hc).2.2 j b xs q1 q2⟩⟩
    show t _ (σ.set i (some (.ref p))) H1
    refine ht F (S1.set i .un) (σ.set i (some (.ref p))) H1 G1 p tr fp S2 tr2 (r1.forget i _) ei t1 hidS e2 _ fun σ2 H2 G2 r2 g2 ei2 t2 hid2 => ?_
    obtain ⟨G3, g3, r3, h3⟩ := r2.knownAll t2 hid2
    have r4 := r3.setD i h3
    have es : σ2.set i (some (.ref p)) = σ2 := by
      apply List.ext_getElem?
      intro j
      by_cases hj : i = j
      · subst hj
        rw [List.getElem?_set_self (List.getElem?_eq_some_iff.mp ei2).1, ei2]
      · rw [List.getElem?_set_ne hj]
    rw [es] at r4
    exact hr F _ σ2 H2 G3 out r4 e3 D (h.mono ((g1.trans g2).trans g3))
end
end DL

set_option Elab.async false
set_option linter.all false
set_option maxRecDepth 100000
set_option maxHeartbeats 4000000
/-! DL, part 17: the rules for the text: trees. -/
namespace DL
open PySem PySem.Spec PyProof.Rows L2
section
variable {X : Cx} {K : PySem.W.Frag} {e o c : Expr} {pos apos pos' : Pos} {te ta tb : TE} {tA : TA} {fs : AS} {fl : LS} {fd fa fb : DS} {i j l n : Nat} {x y z : Str} {elt tg iter : Expr} {scope : Scope} {spos py : Pos} {wi : TI} {g : TG} {ix : List Nat} {gs : GS}
theorem sm_leaf (h : SL X K e te fl) : SM X K e te 0 (mLeaf fl) := ⟨h.p, sem_mLeaf h.ok⟩
theorem sm_lc (own : List (Str × Nat)) (vs : List Nat) (hc : X.calm = true) (hN : X.N.Nodup) (hi : SI X K tg iter wi fl) (ok : blkC X.N X.env.scope scope own = true)
    (hg : ∀ (s : Shared) (H : Hp) (C : Addr) (cl : List (Str × Addr)) (fp : List Addr), SG (X.blk s H scope (compEnvC scope cl C X.env) fp) K tg g ix gs)
    (he : ∀ (s : Shared) (H : Hp) (C : Addr) (cl : List (Str × Addr)) (fp : List Addr), SM (X.blk s H scope (compEnvC scope cl C X.env) fp) K elt te n fd) (hv : own.map (·.2) = vs := by rfl) (hix : ∀ i ∈ ix, i ∈ vs := by decide) (hs : ∀ x, foldedSetIterable iter X.env x = pure x := by intro _; rfl) :
    SM X K (.ListComp elt [⟨tg, iter, [], 0⟩] scope pos) (tLc wi g tYes te vs) (n + 1) (mLC vs fl gs fd) := by
  subst hv
  have s0 : Shared := X.s_0
  exact ⟨pe_lc hc hN hi.p (blkOk_by ok) (fun s H C cl fp => (hg s H C cl fp).p) (fun s H C cl fp => pts_nil) (fun s H C cl fp => (he s H C cl fp).p) hs,
    sem_mLC hi.ok (hg s0 X.H_0 0 [] []).ok hix (he s0 X.H_0 0 [] []).ok⟩
theorem sm_two {a b : Expr} (h1 : SM X K a ta n fa) (h2 : SM X K b tb n fb) (hsa : starEach [a, b] X.env = (false, eval a X.env) :: starEach [b] X.env := by rfl) (hsb : starEach [b] X.env = (false, eval b X.env) :: starEach [] X.env := by rfl) :
    SM X K (.List [a, b] pos) (tLst (tCons ta (tCons tb tNil))) (n + 1) (mTwo fa fb) := ⟨pe_lst (pa_cons h1.p (pa_cons h2.p pa_nil hsb) hsa), sem_mTwo h1.ok h2.ok⟩
/-- a statement with a tree at i -/
structure ST1 (X : Cx) (K : PySem.W.Frag) (i n : Nat) (st : Stmt) (t : TS) (f : TSem) : Prop where
  p : PS X st t
  ok : SemTS K i n t f
structure STn (X : Cx) (K : PySem.W.Frag) (i n : Nat) (st : List Stmt) (t : TS) (f : TSem) : Prop where
  p : PSs X st t
  ok : SemTS K i n t f
theorem stn_one {st : Stmt} {t : TS} {f : TSem} (h : ST1 X K i n st t f) : STn X K i n [st] t f := ⟨pss_one h.p, h.ok⟩
theorem stn_cons {st : Stmt} {rest : List Stmt} {t u : TS} {f g : TSem} (h1 : ST1 X K i n st t f) (h2 : STn X K i n rest u g) : STn X K i n (st :: rest) (tSeq t u) (tsSeq f g) := ⟨pss_cons h1.p h2.p, sem_tsSeq h1.ok h2.ok⟩
theorem st1_par3 {j1 j2 j3 : Nat} {a b c : Expr} {px py pz pt : Pos} {kt k2 pt2} (hc : X.calm = true) (hN : X.N.Nodup) (hij : j1 ≠ j2) (hil : j1 ≠ j3) (hjl : j2 ≠ j3) (hi' : i ∉ [j1, j2, j3]) (ha : SA X K [a, b, c] tA fs) (hi : X.N[j1]? = some x := by rfl) (hj : X.N[j2]? = some y := by rfl) (hl : X.N[j3]? = some z := by rfl)
    (hx : X.env.scope.names.lookup x = some .local := by rfl) (hy : X.env.scope.names.lookup y = some .local := by rfl) (hz : X.env.scope.names.lookup z = some .local := by rfl)
    (hw : swappedStores [.Tuple [.Name x px, .Name y py, .Name z pz] kt pt] (.Tuple [a, b, c] k2 pt2) X.env = pure (some [x, y, z]) := by rfl)
    (hs : swapsWithSole [.Tuple [.Name x px, .Name y py, .Name z pz] kt pt] (.Tuple [a, b, c] k2 pt2) pos.line X.env = pure false := by rfl) :
    ST1 X K i n (.Assign [.Tuple [.Name x px, .Name y py, .Name z pz] kt pt] (.Tuple [a, b, c] k2 pt2) pos) (tPar3 j1 j2 j3 tA) (tsX (xPar3 j1 j2 j3 fs)) := ⟨ps_par3 hc hN hi hj hl hij hil hjl hx hy hz ha.p hw hs, sem_tsX (sem_xPar3 ha.ok) hi'⟩
theorem st1_asg {tg : Expr} (hi : i ∉ ix) (he : SDt X K e te fd) (hg : SG X K tg g ix gs) (hs : swapsWithSole [tg] e pos.line X.env = pure false := by rfl) (hw : swappedStores [tg] e X.env = pure none := by rfl)
    (h1 : (assignEach [tg] X.env).map (·.2) = [assign tg X.env] := by rfl) : ST1 X K i n (.Assign [tg] e pos) (tAsg te g) (tsX (xAsg fd gs)) := ⟨ps_asg he.p hg.p hs hw h1, sem_tsX (sem_xAsg he.ok hg.ok) hi⟩
theorem st1_put3 {j1 j2 j3 : Nat} {o i1 i2 i3 : Expr} {p1 p2 p3 : Pos} (hK : X.K = K) (he : SDt X K e te fd) (ho : SE X K o (tVar i) (sVar i)) (h1 : SE X K i1 (tVar j1) (sVar j1)) (h2 : SE X K i2 (tVar j2) (sVar j2)) (h3 : SE X K i3 (tVar j3) (sVar j3))
    (hx1 : PlainIx i1 := by exact fun _ _ => rfl) (hx2 : PlainIx i2 := by exact fun _ _ => rfl)
    (ha : ∀ v, assign (.Subscript (.Subscript (.Subscript o i1 p1) i2 p2) i3 p3) X.env v = (do
      let ov ← holding [v] (eval (.Subscript (.Subscript o i1 p1) i2 p2) X.env)
      let iv ← holding [v, ov] (eval i3 X.env)
      standAt p3
      holding [v, ov, iv] (setItem ov iv v)
      release [v, ov, iv] []) := by intro _; rfl)
    (hs : swapsWithSole [.Subscript (.Subscript (.Subscript o i1 p1) i2 p2) i3 p3] e pos.line X.env = pure false := by rfl) (hw : swappedStores [.Subscript (.Subscript (.Subscript o i1 p1) i2 p2) i3 p3] e X.env = pure none := by rfl)
    (h0 : (assignEach [.Subscript (.Subscript (.Subscript o i1 p1) i2 p2) i3 p3] X.env).map (·.2) = [assign (.Subscript (.Subscript (.Subscript o i1 p1) i2 p2) i3 p3) X.env] := by rfl) :
    ST1 X K i 2 (.Assign [.Subscript (.Subscript (.Subscript o i1 p1) i2 p2) i3 p3] e pos) (tAsg te (gSub (tOp (rIx K) (tOp (rIx K) (tVar i) (tVar j1)) (tVar j2)) (tVar j3) rSetL)) (tsPut3 i j1 j2 j3 fd) :=
  ⟨ps_asg he.p (pg_sub (pe_ix (opIx hK) (pe_ix (opIx hK) ho.p h1.p hx1) h2.p hx2) h3.p set_list ha) hs hw h0, sem_tsPut3 he.ok⟩
theorem st1_put2 {j1 j2 : Nat} {o i1 i2 : Expr} {p1 p2 : Pos} (hK : X.K = K) (he : SDt X K e te fd) (ho : SE X K o (tVar i) (sVar i)) (h1 : SE X K i1 (tVar j1) (sVar j1)) (h2 : SE X K i2 (tVar j2) (sVar j2))
    (hx1 : PlainIx i1 := by exact fun _ _ => rfl)
    (ha : ∀ v, assign (.Subscript (.Subscript o i1 p1) i2 p2) X.env v = (do
      let ov ← holding [v] (eval (.Subscript o i1 p1) X.env)
      let iv ← holding [v, ov] (eval i2 X.env)
      standAt p2
      holding [v, ov, iv] (setItem ov iv v)
      release [v, ov, iv] []) := by intro _; rfl)
    (hs : swapsWithSole [.Subscript (.Subscript o i1 p1) i2 p2] e pos.line X.env = pure false := by rfl) (hw : swappedStores [.Subscript (.Subscript o i1 p1) i2 p2] e X.env = pure none := by rfl)
    (h0 : (assignEach [.Subscript (.Subscript o i1 p1) i2 p2] X.env).map (·.2) = [assign (.Subscript (.Subscript o i1 p1) i2 p2) X.env] := by rfl) :
    ST1 X K i 1 (.Assign [.Subscript (.Subscript o i1 p1) i2 p2] e pos) (tAsg te (gSub (tOp (rIx K) (tVar i) (tVar j1)) (tVar j2) rSetL)) (tsPut2 i j1 j2 fd) :=
  ⟨ps_asg he.p (pg_sub (pe_ix (opIx hK) ho.p h1.p hx1) h2.p set_list ha) hs hw h0, sem_tsPut2 he.ok⟩
theorem st1_for {body : List Stmt} {tb : TS} {fB : TSem} (hp : PassesOwn (model X.prog X.w) X.A X.env X.xe) (hc : X.calm = true) (hi : SI X K tg iter wi fl) (hg : SG X K tg g ix gs) (hix : i ∉ ix) (hb : STn X K i n body tb fB)
    (hs : ∀ x, foldedSetIterable iter X.env x = pure x := by intro _; rfl) : ST1 X K i n (.For tg iter body [] pos) (tFor wi g tb) (tsFor fl gs fB) := ⟨ps_for hp hc hi.p hg.p hb.p hs, sem_tsFor hi.ok hg.ok hix hb.ok⟩
/-- x = .. (a tree), a statement that changes it, the rest -/
theorem sss_tree {st : Stmt} {rest : List Stmt} {t u : TS} {ft : TSem} {f : SSem} (hN : X.N.Nodup) (hm : SM X K e te n fd) (ht : ST1 X K i n st t ft) (hr : SSs X K rest u f) (hi : X.N[i]? = some x := by rfl) (hx : Loc X.env.scope x := by first | exact Or.inl rfl | exact Or.inr rfl) (hs : swapsWith e (some (.Name x pos')) pos.line X.env = pure false := by rfl)
    (hf : X.fn x = true ∨ X.env.scope.names.lookup x = some .local := by first | exact Or.inl rfl | exact Or.inr rfl) : SSs X K (.Assign [.Name x pos'] e pos :: st :: rest) (tSeq (tAsg te (gName i)) (tSeq t u)) (sTree i fd ft f) :=
  ⟨pss_cons (ps_set hN hi hx hm.p hs hf) (pss_cons ht.p hr.p), sem_tree hm.ok ht.ok hr.ok⟩
end
end DL

set_option Elab.async false
set_option linter.all false
set_option maxRecDepth 100000
set_option maxHeartbeats 4000000
/-! DM, part 1: the mirrors, evaluated step by step (for simp). -/
namespace DL
open PySem PySem.Spec PyProof.Rows L2

@[simp] theorem e_sVar (i : Nat) (S : List SD) : sVar i S = (if sdTold (S[i]?) = true then some (.slot i, S) else none) := rfl
@[simp] theorem e_sC (x : PyData) (S : List SD) : sC x S = (some (.dat x, S)) := rfl
@[simp] theorem e_sTake (f : ES) (S : List SD) : sTake f S = ((f S).bind fun p => takeO p.2 p.1) := rfl
@[simp] theorem e_sDat (f : DS) (S : List SD) : sDat f S = ((f S).map fun p => (.dat p.1, p.2)) := rfl
@[simp] theorem e_sKeep (f : LS) (S : List SD) : sKeep f S = ((f S).map fun p => (.dat (.list p.1), p.2)) := rfl
@[simp] theorem e_sNil (S : List SD) : sNil  S = (some ([], S)) := rfl
@[simp] theorem e_sCons (f : ES) (g : AS) (S : List SD) : sCons f g S = ((f S).bind fun p => (g p.2).map fun q => (p.1 :: q.1, q.2)) := rfl
@[simp] theorem e_sBin (g : PyData → PyData → Option PyData) (f f' : ES) (S : List SD) : sBin g f f' S = ((f S).bind fun p => (f' p.2).bind fun q => (p.1.get q.2).bind fun x => (q.1.get q.2).bind fun y => (g x y).map fun z => (.dat z, q.2)) := rfl
@[simp] theorem e_sBinL (g : PyData → PyData → Option (List PyData)) (f f' : ES) (S : List SD) : sBinL g f f' S = ((f S).bind fun p => (f' p.2).bind fun q => (p.1.get q.2).bind fun x => (q.1.get q.2).bind fun y => (g x y).map fun z => (z, q.2)) := rfl
@[simp] theorem e_sTest (f : ES) (S : List SD) : sTest f S = ((f S).bind fun p => (p.1.get p.2).bind fun x => (dBool x).map fun b => (b, p.2)) := rfl
@[simp] theorem e_sAnd (f g : BS) (S : List SD) : sAnd f g S = ((f S).bind fun p => if p.1 = true then g p.2 else some (false, p.2)) := rfl
@[simp] theorem e_sOr (f g : BS) (S : List SD) : sOr f g S = ((f S).bind fun p => if p.1 = true then some (true, p.2) else g p.2) := rfl
@[simp] theorem e_sNot (f : BS) (S : List SD) : sNot f S = ((f S).map fun p => (!p.1, p.2)) := rfl
@[simp] theorem e_sAndV (f g : ES) (S : List SD) : sAndV f g S = ((f S).bind fun p => (p.1.get p.2).bind fun x => (dBool x).bind fun c => if c = true then g p.2 else some (.dat (.bool false), p.2)) := rfl
@[simp] theorem e_sOrV (f g : ES) (S : List SD) : sOrV f g S = ((f S).bind fun p => (p.1.get p.2).bind fun x => (dBool x).bind fun c => if c = true then some (.dat (.bool true), p.2) else g p.2) := rfl
@[simp] theorem e_sNotV (f : ES) (S : List SD) : sNotV f S = ((f S).bind fun p => (p.1.get p.2).bind fun x => (dBool x).map fun c => (.dat (.bool (!c)), p.2)) := rfl
@[simp] theorem e_sIf {α : Type} (t : BS) (f g : List SD → Option α) (S : List SD) : sIf t f g S = ((t S).bind fun p => if p.1 = true then f p.2 else g p.2) := rfl
@[simp] theorem e_sUn (g : PyData → Option PyData) (f : ES) (S : List SD) : sUn g f S = ((f S).bind fun p => (p.1.get p.2).bind fun x => (g x).map fun z => (.dat z, p.2)) := rfl
@[simp] theorem e_sTup (f : AS) (S : List SD) : sTup f S = ((f S).bind fun p => (takeAll p.2 p.1).bind fun q => if q.1.length ≤ 100000 then some (.dat (.tuple q.1), q.2) else none) := rfl
@[simp] theorem e_sLst (f : AS) (S : List SD) : sLst f S = ((f S).bind fun p => (takeAll p.2 p.1).bind fun q => if q.1.length ≤ 100000 then some (q.1, q.2) else none) := rfl
@[simp] theorem e_sCB (g : List PyData → Option PyData) (f : AS) (S : List SD) : sCB g f S = ((f S).bind fun p => (getAll p.2 p.1).bind fun xs => (g xs).map fun z => (.dat z, p.2)) := rfl
@[simp] theorem e_sCBL (g : List PyData → Option (List PyData)) (f : AS) (S : List SD) : sCBL g f S = ((f S).bind fun p => (getAll p.2 p.1).bind fun xs => (g xs).map fun z => (z, p.2)) := rfl
@[simp] theorem e_sNext (S : List SD) : sNext  S = (some (.nx S)) := rfl
@[simp] theorem e_sBreak (S : List SD) : sBreak  S = (some (.bk S)) := rfl
@[simp] theorem e_sCont (S : List SD) : sCont  S = (some (.ct S)) := rfl
@[simp] theorem e_sNever (S : List SD) : sNever  S = (none) := rfl
@[simp] theorem e_sDrop (fe : ES) (S : List SD) : sDrop fe S = ((fe S).map fun p => .nx p.2) := rfl
@[simp] theorem e_sRet (fd : DS) (S : List SD) : sRet fd S = ((fd S).map fun p => .rt (.d p.1) p.2) := rfl
@[simp] theorem e_sRetL (fl : LS) (S : List SD) : sRetL fl S = ((fl S).map fun p => .rt (.own false p.1) p.2) := rfl
@[simp] theorem e_sRetV (i : Nat) (S : List SD) : sRetV i S = (retS S i (S[i]?)) := rfl
@[simp] theorem e_sRetN (S : List SD) : sRetN  S = (some (.rt (.d .none) S)) := rfl
@[simp] theorem e_sAsg (fd : DS) (gs : GS) (S : List SD) : sAsg fd gs S = ((fd S).bind fun p => (gs p.1 p.2).map fun S1 => .nx S1) := rfl
@[simp] theorem e_sAsgL (fl : LS) (i : Nat) (S : List SD) : sAsgL fl i S = ((fl S).map fun p => .nx (p.2.set i (.own false p.1))) := rfl
@[simp] theorem e_sFor (fi : LS) (gs : GS) (fb : SSem) (S : List SD) : sFor fi gs fb S = ((fi S).bind fun p => forGo gs fb p.1 p.2) := rfl
@[simp] theorem e_sWhile (n : Nat) (ft : BS) (fb : SSem) (S : List SD) : sWhile n ft fb S = (whileGo ft fb n S) := rfl
@[simp] theorem e_sYes (S : List SD) : sYes  S = (some (true, S)) := rfl
@[simp] theorem e_sLC (vs : List Nat) (fi : LS) (gs : GS) (fc : BS) (fd : DS) (S : List SD) : sLC vs fi gs fc fd S = ((fi S).bind fun p => if p.1.length < 100000 then lcGo vs gs fc fd p.1 p.2 else none) := rfl
@[simp] theorem e_sApp (n k : Nat) (f g : AS) (S : List SD) : sApp n k f g S = ((f S).bind fun p => (g p.2).bind fun q => if p.1.length = n ∧ q.1.length = k then some (p.1 ++ q.1, q.2) else none) := rfl
@[simp] theorem e_sCallR (n : Nat) (m : Fn) (fs : AS) (S : List SD) : sCallR n m fs S = ((fs S).bind fun p => (opSDs p.2 p.1).bind fun Dl => if p.1.length = n ∧ (ownIx p.2 p.1).Nodup then (m Dl).map fun q => (q.1, wbGo p.1 q.2 0 p.2) else none) := rfl
@[simp] theorem e_sPerm (pm : List Nat) (f : AS) (S : List SD) : sPerm pm f S = ((f S).map fun p => (perm pm p.1, p.2)) := rfl
@[simp] theorem e_sCall (n : Nat) (m : Fn) (fs : AS) (S : List SD) : sCall n m fs S = ((sCallR n m fs S).bind fun p => (resD p.1).map fun x => (.dat x, p.2)) := rfl
@[simp] theorem e_sCallL (n : Nat) (m : Fn) (fs : AS) (S : List SD) : sCallL n m fs S = ((sCallR n m fs S).bind fun p => (resL p.1).map fun x => (x, p.2)) := rfl
@[simp] theorem e_sIsi (T : Tg) (fe : ES) (S : List SD) : sIsi T fe S = ((fe S).bind fun p => (p.1.get p.2).bind fun x => (isTy T x).map fun b => (.dat (.bool b), p.2)) := rfl
@[simp] theorem e_sIsi2 (T U : Tg) (fe : ES) (S : List SD) : sIsi2 T U fe S = ((fe S).bind fun p => (p.1.get p.2).bind fun x => (isTy T x).bind fun b => (isTy U x).map fun c => (.dat (.bool (b || c)), p.2)) := rfl
@[simp] theorem e_sSeqI (fd : DS) (S : List SD) : sSeqI fd S = ((fd S).bind fun p => (dItems p.1).map fun xs => (xs, p.2)) := rfl
@[simp] theorem e_sTakeA (f : AS) (S : List SD) : sTakeA f S = ((f S).bind fun p => takeAll p.2 p.1) := rfl
@[simp] theorem e_sArgI (g : List PyData → Option (List PyData)) (f : AS) (S : List SD) : sArgI g f S = ((sTakeA f S).bind fun p => (g p.1).map fun xs => (xs, p.2)) := rfl
@[simp] theorem e_sNoPart (S : List SD) : sNoPart  S = (some (none, S)) := rfl
@[simp] theorem e_sPart (f : ES) (S : List SD) : sPart f S = ((f S).bind fun p => (p.1.get p.2).bind fun x => (dIntO x).map fun i => (some i, p.2)) := rfl
@[simp] theorem e_sSlice (fe : ES) (fl fh : OS) (S : List SD) : sSlice fe fl fh S = ((fe S).bind fun p => (fl p.2).bind fun q => (fh q.2).bind fun r => (p.1.get r.2).bind fun x => (dCut x q.1 r.1).map fun z => (.dat z, r.2)) := rfl
@[simp] theorem e_sSliceL (fe : ES) (fl fh : OS) (S : List SD) : sSliceL fe fl fh S = ((fe S).bind fun p => (fl p.2).bind fun q => (fh q.2).bind fun r => (p.1.get r.2).bind fun x => (dCutL x q.1 r.1).map fun z => (z, r.2)) := rfl
@[simp] theorem e_vD (fd : DS) (S : List SD) : vD fd S = ((fd S).map fun p => (.d p.1, p.2)) := rfl
@[simp] theorem e_vL (fl : LS) (S : List SD) : vL fl S = ((fl S).map fun p => (.own false p.1, p.2)) := rfl
@[simp] theorem e_sSetV (fv : VS) (i : Nat) (S : List SD) : sSetV fv i S = ((fv S).map fun p => .nx (p.2.set i p.1)) := rfl
@[simp] theorem e_sRetVS (fv : VS) (S : List SD) : sRetVS fv S = ((fv S).map fun p => .rt p.1 p.2) := rfl
@[simp] theorem e_sPar (i j : Nat) (fv fw : VS) (S : List SD) : sPar i j fv fw S = ((fv S).bind fun p => (asideV p.1 fw p.2).map fun q => .nx ((q.2.set i p.1).set j q.1)) := rfl
@[simp] theorem e_sPar3 (i j l : Nat) (fs : AS) (S : List SD) : sPar3 i j l fs S = ((sTakeA fs S).bind fun p => set3 i j l p.2 p.1) := rfl
@[simp] theorem e_sIndex (fo fa : ES) (S : List SD) : sIndex fo fa S = ((fo S).bind fun p => (p.1.get p.2).bind fun l => if isList l = true then (fa p.2).bind fun q => (p.1.get q.2).bind fun x => (q.1.get q.2).bind fun y => (dIndex x y).map fun z => (.dat z, q.2) else none) := rfl
@[simp] theorem e_sRg1 (fe : ES) (S : List SD) : sRg1 fe S = ((fe S).bind fun p => (p.1.get p.2).bind fun x => (dIntO x).map fun n => ((0, n), p.2)) := rfl
@[simp] theorem e_sRg2 (fe fa : ES) (S : List SD) : sRg2 fe fa S = ((fe S).bind fun p => (fa p.2).bind fun q => (p.1.get q.2).bind fun x => (q.1.get q.2).bind fun y => (dIntO x).bind fun n => (dIntO y).map fun m => ((n, m), q.2)) := rfl
@[simp] theorem e_sLstRg (f : RS) (S : List SD) : sLstRg f S = ((f S).bind fun p => if rgB p.1.1 p.1.2 = true then some (rngD p.1.1 (p.1.2 - p.1.1).toNat, p.2) else none) := rfl
@[simp] theorem e_sTupRg (f : RS) (S : List SD) : sTupRg f S = ((f S).bind fun p => if rgB p.1.1 p.1.2 = true then some (.dat (.tuple (rngD p.1.1 (p.1.2 - p.1.1).toNat)), p.2) else none) := rfl
@[simp] theorem e_sDict0 (S : List SD) : sDict0  S = (some (.dat (.dict []), S)) := rfl

@[simp] theorem e_sSeq (f g : SSem) (S : List SD) : sSeq f g S = ((f S).bind fun o => match o with
  | .nx S1 => g S1
  | o => some o) := rfl
@[simp] theorem told_d (x : PyData) : sdTold (some (.d x)) = true := rfl
@[simp] theorem told_o (b : Bool) (x : List PyData) : sdTold (some (.own b x)) = true := rfl
@[simp] theorem told_u : sdTold (some .un) = false := rfl
@[simp] theorem get_d (x : PyData) : sdGet (.d x) = some x := rfl
@[simp] theorem get_o (b : Bool) (x : List PyData) : sdGet (.own b x) = some (.list x) := rfl
@[simp] theorem op_dat (S : List SD) (x : PyData) : Op.get S (.dat x) = some x := rfl
@[simp] theorem op_slot (S : List SD) (i : Nat) : Op.get S (.slot i) = (S[i]?).bind sdGet := rfl
@[simp] theorem takeO_dat (S : List SD) (x : PyData) : takeO S (.dat x) = some (x, S) := rfl
@[simp] theorem takeO_slot (S : List SD) (i : Nat) : takeO S (.slot i) = takeS S i (S[i]?) := rfl
@[simp] theorem takeS_d (S : List SD) (i : Nat) (x : PyData) : takeS S i (some (.d x)) = some (x, S) := rfl
@[simp] theorem takeS_o (S : List SD) (i : Nat) (x : List PyData) : takeS S i (some (.own false x)) = some (.list x, S.set i (.d (.list x))) := rfl
@[simp] theorem takeAll_nil (S : List SD) : takeAll S [] = some ([], S) := rfl
@[simp] theorem takeAll_cons (S : List SD) (o : Op) (os : List Op) : takeAll S (o :: os) = ((takeO S o).bind fun p => (takeAll p.2 os).map fun q => (p.1 :: q.1, q.2)) := rfl
@[simp] theorem getAll_nil (S : List SD) : getAll S [] = some [] := rfl
@[simp] theorem getAll_cons (S : List SD) (o : Op) (os : List Op) : getAll S (o :: os) = ((o.get S).bind fun x => (getAll S os).map fun xs => x :: xs) := rfl
@[simp] theorem bor_o (b : Bool) (x : List PyData) : bor (.own b x) = .own true x := rfl
@[simp] theorem bor_d (x : PyData) : bor (.d x) = .d x := rfl
@[simp] theorem bor_u : bor .un = .un := rfl
@[simp] theorem borGo_nil (vs : List Nat) (k : Nat) : borGo vs k [] = [] := rfl
@[simp] theorem borGo_cons (vs : List Nat) (k : Nat) (s : SD) (S : List SD) : borGo vs k (s :: S) = (if k ∈ vs then .un else bor s) :: borGo vs (k + 1) S := rfl
@[simp] theorem unb1_oo (b : Bool) (x y : List PyData) : unb1 (.own b x) (.own true y) = .own b y := rfl
@[simp] theorem unb1_d (x : PyData) (s : SD) : unb1 (.d x) s = .d x := by cases s <;> rfl
@[simp] theorem unb1_u (s : SD) : unb1 .un s = .un := by cases s <;> rfl
@[simp] theorem unbGo_cons (vs : List Nat) (k : Nat) (s s' : SD) (S S' : List SD) : unbGo vs k (s :: S) (s' :: S') = (if k ∈ vs then s else unb1 s s') :: unbGo vs (k + 1) S S' := by cases S <;> rfl
@[simp] theorem unbGo_nil (vs : List Nat) (k : Nat) : unbGo vs k [] [] = [] := rfl
@[simp] theorem fin_nil (S : List SD) : fin [] S = some [] := by cases S <;> rfl
@[simp] theorem fin_d (x : PyData) (Dl : List SD) (s : SD) (S : List SD) : fin (.d x :: Dl) (s :: S) = (fin Dl S).map fun z => .d x :: z := rfl
@[simp] theorem fin_o (b : Bool) (x y : List PyData) (Dl S : List SD) : fin (.own b x :: Dl) (.own true y :: S) = (fin Dl S).map fun z => .own true y :: z := rfl
@[simp] theorem defOut_nx (Dl S : List SD) : defOut Dl (.nx S) = (fin Dl S).map fun z => (.d .none, z) := rfl
@[simp] theorem defOut_rt (Dl S : List SD) (r : SD) : defOut Dl (.rt r S) = (fin Dl S).map fun z => (r, z) := rfl
@[simp] theorem opSD_dat (S : List SD) (x : PyData) : opSD S (.dat x) = some (.d x) := rfl
@[simp] theorem opSD_slot (S : List SD) (i : Nat) : opSD S (.slot i) = ((S[i]?).bind fun s => match s with
    | .un => none
    | s => some (bor s)) := rfl
@[simp] theorem opSDs_nil (S : List SD) : opSDs S [] = some [] := rfl
@[simp] theorem opSDs_cons (S : List SD) (o : Op) (os : List Op) : opSDs S (o :: os) = ((opSD S o).bind fun s => (opSDs S os).map fun ss => s :: ss) := rfl
@[simp] theorem isOwn_d (x : PyData) : isOwn (some (.d x)) = false := rfl
@[simp] theorem isOwn_o (b : Bool) (x : List PyData) : isOwn (some (.own b x)) = true := rfl
@[simp] theorem isOwnS_o (b : Bool) (x : List PyData) : isOwnS (some (.own b x)) = true := rfl
@[simp] theorem ownIx_nil (S : List SD) : ownIx S [] = [] := rfl
@[simp] theorem ownIx_slot (S : List SD) (i : Nat) (os : List Op) : ownIx S (.slot i :: os) = if isOwn (S[i]?) = true then i :: ownIx S os else ownIx S os := rfl
@[simp] theorem ownIx_dat (S : List SD) (x : PyData) (os : List Op) : ownIx S (.dat x :: os) = ownIx S os := rfl
@[simp] theorem isSlot_s (i j : Nat) : isSlot j (.slot i) = (i == j) := rfl
@[simp] theorem isSlot_d (x : PyData) (j : Nat) : isSlot j (.dat x) = false := rfl
@[simp] theorem findArg_nil (j : Nat) (rs : List SD) : findArg j [] rs = none := rfl
@[simp] theorem findArg_cons (j : Nat) (o : Op) (os : List Op) (rs : List SD) : findArg j (o :: os) rs = if isSlot j o = true then some (rs.headD .un) else findArg j os rs.tail := rfl
@[simp] theorem wb1_n (s : SD) : wb1 none s = s := rfl
@[simp] theorem wb1_s (r s : SD) : wb1 (some r) s = unb1 s r := rfl
@[simp] theorem wbGo_nil (os : List Op) (rs : List SD) (j : Nat) : wbGo os rs j [] = [] := rfl
@[simp] theorem wbGo_cons (os : List Op) (rs : List SD) (j : Nat) (s : SD) (S : List SD) : wbGo os rs j (s :: S) = wb1 (findArg j os rs) s :: wbGo os rs (j + 1) S := rfl
@[simp] theorem resD_d (x : PyData) : resD (.d x) = some x := rfl
@[simp] theorem resD_o (x : List PyData) : resD (.own false x) = some (.list x) := rfl
@[simp] theorem resL_o (x : List PyData) : resL (.own false x) = some x := rfl
@[simp] theorem retS_o (S : List SD) (i : Nat) (x : List PyData) : retS S i (some (.own false x)) = some (.rt (.own false x) (S.set i .un)) := rfl
@[simp] theorem retS_d (S : List SD) (i : Nat) (x : PyData) : retS S i (some (.d x)) = some (.rt (.d x) S) := rfl
@[simp] theorem e_gsName (i : Nat) (x : PyData) (S : List SD) : gsName i x S = some (S.set i (.d x)) := rfl
@[simp] theorem e_gsNil (S : List SD) : gsNil [] S = some S := rfl
@[simp] theorem e_gsCons (g : GS) (gs : List PyData → List SD → Option (List SD)) (x : PyData) (xs : List PyData) (S : List SD) : gsCons g gs (x :: xs) S = (g x S).bind fun S1 => gs xs S1 := rfl
@[simp] theorem e_gsTup (n : Nat) (gs : List PyData → List SD → Option (List SD)) (xs : List PyData) (S : List SD) : gsTup n gs (.tuple xs) S = if xs.length = n then gs xs S else none := rfl
@[simp] theorem e_gsSub (i : Nat) (fi : ES) (x : PyData) (S : List SD) : gsSub i fi x S = if isOwnS (S[i]?) = true then (fi S).bind fun p => (p.1.get p.2).bind fun y => (dIntO y).bind fun k => setAt i x k p.2 (p.2[i]?) else none := rfl
@[simp] theorem e_setAt (i : Nat) (x : PyData) (k : Int) (S : List SD) (b : Bool) (xs : List PyData) : setAt i x k S (some (.own b xs)) = (ixN xs.length k).map fun j => S.set i (.own b (xs.set j x)) := rfl
@[simp] theorem dIntO_i (i : Int) : dIntO (.int i) = some i := rfl
@[simp] theorem dItems_t (xs : List PyData) : dItems (.tuple xs) = some xs := rfl
@[simp] theorem dItems_l (xs : List PyData) : dItems (.list xs) = some xs := rfl
@[simp] theorem isList_l (xs : List PyData) : isList (.list xs) = true := rfl
@[simp] theorem asideV_d (x : PyData) (f : VS) : asideV (.d x) f = f := rfl
@[simp] theorem asideV_o (b : Bool) (x : List PyData) (f : VS) (S : List SD) : asideV (.own b x) f S = (f (borGo [] 0 S)).map fun p => (p.1, unbGo [] 0 S p.2) := rfl
@[simp] theorem e_vLCt (fl : LS) : vLC true fl = vD (sTake (sKeep fl)) := rfl
@[simp] theorem e_vLCf (fl : LS) : vLC false fl = vL fl := rfl
@[simp] theorem e_sChain (g g' : PyData → PyData → Option PyData) (f f' f'' : ES) (S : List SD) : sChain g g' f f' f'' S = ((f S).bind fun p => (f' p.2).bind fun q => (p.1.get q.2).bind fun x => (q.1.get q.2).bind fun y => (g x y).bind fun z => (dBool z).bind fun k =>
  if k = true then (f'' q.2).bind fun s => (q.1.get s.2).bind fun y' => (s.1.get s.2).bind fun w => (g' y' w).map fun z' => (.dat z', s.2) else some (.dat (.bool false), q.2)) := rfl
def methS (i : Nat) (g : List PyData → List PyData → Option (PyData × List PyData)) (ys : List PyData) (S : List SD) : Option SD → Option (Op × List SD)
  | some (.own b xs) => (g xs ys).map fun z => (.dat z.1, S.set i (.own b z.2))
  | _ => none
@[simp] theorem e_methS (i : Nat) (g : List PyData → List PyData → Option (PyData × List PyData)) (ys : List PyData) (S : List SD) (b : Bool) (xs : List PyData) : methS i g ys S (some (.own b xs)) = (g xs ys).map fun z => (.dat z.1, S.set i (.own b z.2)) := rfl
@[simp] theorem e_sMeth (i : Nat) (g : List PyData → List PyData → Option (PyData × List PyData)) (fs : AS) (S : List SD) : sMeth i g fs S = if isOwnS (S[i]?) = true then (sTakeA fs S).bind fun p => methS i g p.1 p.2 (p.2[i]?) else none := by
  unfold sMeth
  split
  · rename_i h
    rw [h]
    simp only [isOwnS, if_true]
    rfl
  · rename_i h
    cases q : S[i]? with
    | none => rfl
    | some sd =>
      cases sd with
      | own b x => exact absurd q (h b x)
      | _ => rfl
/-! data -/
@[simp] theorem dLt_i (i j : Int) : dLt (.int i) (.int j) = some (.bool (decide (i < j))) := rfl
@[simp] theorem dLe_i (i j : Int) : dLe (.int i) (.int j) = some (.bool (decide (i ≤ j))) := rfl
@[simp] theorem dGt_i (i j : Int) : dGt (.int i) (.int j) = some (.bool (decide (j < i))) := rfl
@[simp] theorem dGe_i (i j : Int) : dGe (.int i) (.int j) = some (.bool (decide (j ≤ i))) := rfl
@[simp] theorem dSub_i (i j : Int) : dSub (.int i) (.int j) = some (.int (i - j)) := rfl
@[simp] theorem dAdd_i (i j : Int) : dAdd (.int i) (.int j) = some (.int (i + j)) := rfl
@[simp] theorem dAdd_t (x y : List PyData) : dAdd (.tuple x) (.tuple y) = if x.length + y.length ≤ 100000 then some (.tuple (x ++ y)) else none := rfl
@[simp] theorem dAdd_l (x y : List PyData) : dAdd (.list x) (.list y) = if x.length + y.length ≤ 100000 then some (.list (x ++ y)) else none := rfl
@[simp] theorem dNeg_i (i : Int) : dNeg (.int i) = some (.int (-i)) := rfl
@[simp] theorem dMod_i (i j : Int) : dMod (.int i) (.int j) = if 0 < j then some (.int (i % j)) else none := rfl
@[simp] theorem dDiv_i (i j : Int) : dDiv (.int i) (.int j) = if CDiv i j then some (.int (i / j)) else none := rfl
@[simp] theorem dPow_i (i j : Int) : dPow (.int i) (.int j) = if CPow i j then some (.int (i ^ j.toNat)) else none := rfl
@[simp] theorem dMulX_i (i j : Int) : dMulX (.int i) (.int j) = if CMul i j then some (.int (i * j)) else none := rfl
@[simp] theorem dMulX_t (x : List PyData) (k : Int) : dMulX (.tuple x) (.int k) = if -1000 ≤ k ∧ k ≤ 1000 ∧ x.length ≤ 1000 then some (.tuple (List.replicate k.toNat x).flatten) else none := rfl
@[simp] theorem dIx_t (x : List PyData) (i : Int) : dIx (.tuple x) (.int i) = atI x i := rfl
@[simp] theorem dIx_l (x : List PyData) (i : Int) : dIx (.list x) (.int i) = atI x i := rfl
@[simp] theorem dLen_t (x : List PyData) : dLen [.tuple x] = some (.int x.length) := rfl
@[simp] theorem dLen_l (x : List PyData) : dLen [.list x] = some (.int x.length) := rfl
@[simp] theorem dLen_s (x : List PyData) : dLen [.dict [(.none, .list x)]] = some (.int x.length) := rfl
@[simp] theorem dIx_s (x : List PyData) (i : Int) : dIx (.dict [(.none, .list x)]) (.int i) = atI x i := rfl
@[simp] theorem dBool_b (b : Bool) : dBool (.bool b) = some b := rfl
@[simp] theorem dEq_ii (i j : Int) : dEq (.int i) (.int j) = some (.bool (decide (i = j))) := by
  have : dEq (.int i) (.int j) = if fitN 60 (.int i) = true ∧ fitN 60 (.int j) = true then some (.bool (PyData.eqv (.int i) (.int j))) else none := rfl
  rw [this, if_pos ⟨fit_int _ _, fit_int _ _⟩]
  have : PyData.eqv (.int i) (.int j) = decide (i = j) := by simp only [PyData.eqv]; rw [Bool.eq_iff_iff]; simp
  rw [this]
@[simp] theorem dNe_ii (i j : Int) : dNe (.int i) (.int j) = some (.bool (!decide (i = j))) := by
  have : dNe (.int i) (.int j) = if fitN 60 (.int i) = true ∧ fitN 60 (.int j) = true then some (.bool (!PyData.eqv (.int i) (.int j))) else none := rfl
  rw [this, if_pos ⟨fit_int _ _, fit_int _ _⟩]
  have : PyData.eqv (.int i) (.int j) = decide (i = j) := by simp only [PyData.eqv]; rw [Bool.eq_iff_iff]; simp
  rw [this]
@[simp] theorem dEq_ss (i j : Str) : dEq (.str i) (.str j) = some (.bool (decide (i = j))) := rfl
@[simp] theorem dNe_ss (i j : Str) : dNe (.str i) (.str j) = some (.bool (!decide (i = j))) := rfl
@[simp] theorem dIs_bb (i j : Bool) : dIs (.bool i) (.bool j) = some (.bool (decide (i = j))) := rfl
@[simp] theorem dIs_n (x : PyData) : dIs x .none = some (.bool (isNoneD x)) := rfl
@[simp] theorem dIsNot_n (x : PyData) : dIsNot x .none = some (.bool (!isNoneD x)) := rfl
@[simp] theorem dInt_i (i : Int) : dInt [.int i] = some (.int i) := rfl
@[simp] theorem dTuple_l (x : List PyData) : dTuple [.list x] = some (.tuple x) := rfl
@[simp] theorem dTuple_t (x : List PyData) : dTuple [.tuple x] = some (.tuple x) := rfl
@[simp] theorem dListL_l (x : List PyData) : dListL [.list x] = some x := rfl
@[simp] theorem dListL_t (x : List PyData) : dListL [.tuple x] = some x := rfl
@[simp] theorem dAll_m (bs : List Bool) : dAll [.list (bs.map .bool)] = some (.bool (bs.all id)) := by simp [dAll, dBools_map]
@[simp] theorem dAny_m (bs : List Bool) : dAny [.list (bs.map .bool)] = some (.bool (bs.any id)) := by simp [dAny, dBools_map]
theorem dAll_f {α : Type} (f : α → Bool) (xs : List α) : dAll [.list (xs.map fun x => .bool (f x))] = some (.bool (xs.all f)) := by
  have h : (xs.map fun x => PyData.bool (f x)) = (xs.map f).map .bool := by simp
  rw [h, dAll_m]; simp
@[simp] theorem dAll_c {α : Type} (f : α → Bool) (xs : List α) : dAll [.list (xs.map (PyData.bool ∘ f))] = some (.bool (xs.all f)) := dAll_f f xs
theorem dAny_f {α : Type} (f : α → Bool) (xs : List α) : dAny [.list (xs.map fun x => .bool (f x))] = some (.bool (xs.any f)) := by
  have h : (xs.map fun x => PyData.bool (f x)) = (xs.map f).map .bool := by simp
  rw [h, dAny_m]; simp
@[simp] theorem dAny_c {α : Type} (f : α → Bool) (xs : List α) : dAny [.list (xs.map (PyData.bool ∘ f))] = some (.bool (xs.any f)) := dAny_f f xs
@[simp] theorem dMax_ii (i j : Int) : dMax [.int i, .int j] = some (.int (if j > i then j else i)) := rfl
@[simp] theorem dMin_ii (i j : Int) : dMin [.int i, .int j] = some (.int (if j < i then j else i)) := rfl
@[simp] theorem dAbs_i (i : Int) : dAbs [.int i] = some (.int (if i < 0 then -i else i)) := rfl
@[simp] theorem dDivmod_ii (i j : Int) : dDivmod [.int i, .int j] = if CDiv i j then some (.tuple [.int (i / j), .int (i % j)]) else none := rfl
theorem rngI_ok {j : Int} (h1 : 0 ≤ j) (h2 : j ≤ 100000) : rngI [.int j] = some (rngD 0 j.toNat) := by
  unfold rngI
  exact if_pos (by omega)
theorem rngI_n (n : Nat) (h : n ≤ 100000) : rngI [.int n] = some (rngD 0 n) := by
  have e : ((n : Int)).toNat = n := Int.toNat_natCast n
  have := rngI_ok (j := (n : Int)) (Int.natCast_nonneg n) (by omega)
  rw [e] at this
  exact this
@[simp] theorem enumI_t (x : List PyData) : enumI [.tuple x] = some (enumD 0 x) := rfl
@[simp] theorem enumI_l (x : List PyData) : enumI [.list x] = some (enumD 0 x) := rfl
@[simp] theorem zipI_t (x y : List PyData) : zipI [.tuple x, .tuple y] = some (zipD x y) := rfl
@[simp] theorem zipI_l (x y : List PyData) : zipI [.list x, .list y] = some (zipD x y) := rfl
@[simp] theorem zipI_tl (x y : List PyData) : zipI [.tuple x, .list y] = some (zipD x y) := rfl
@[simp] theorem zipI_lt (x y : List PyData) : zipI [.list x, .tuple y] = some (zipD x y) := rfl
@[simp] theorem dCut_t (x : List PyData) (lo hi : Option Int) : dCut (.tuple x) lo hi = some (.tuple (cutD x lo hi)) := rfl
@[simp] theorem dCut_l (x : List PyData) (lo hi : Option Int) : dCut (.list x) lo hi = some (.list (cutD x lo hi)) := rfl
@[simp] theorem dRev_t (x : List PyData) : dRev (.tuple x) = some (.tuple x.reverse) := rfl
@[simp] theorem dRev_l (x : List PyData) : dRev (.list x) = some (.list x.reverse) := rfl
@[simp] theorem mAppend_1 (x : List PyData) (y : PyData) : mAppend x [y] = if x.length < 100000 then some (.none, x ++ [y]) else none := rfl
@[simp] theorem isTy_i (T : Tg) (i : Int) : isTy T (.int i) = some (tgIs T .int) := rfl
@[simp] theorem isTy_b (T : Tg) (i : Bool) : isTy T (.bool i) = some (tgIs T .bool) := rfl
@[simp] theorem isTy_n (T : Tg) : isTy T .none = some (tgIs T .none) := rfl
@[simp] theorem isTy_s (T : Tg) (i : Str) : isTy T (.str i) = some (tgIs T .str) := rfl
@[simp] theorem isTy_t (T : Tg) (i : List PyData) : isTy T (.tuple i) = some (tgIs T .tuple) := rfl
@[simp] theorem isTy_l (T : Tg) (i : List PyData) : isTy T (.list i) = some (tgIs T .list) := rfl
@[simp] theorem isTy_d (T : Tg) : isTy T (.dict []) = some (tgIs T .dict) := rfl
@[simp] theorem isNoneD_n : isNoneD .none = true := rfl
@[simp] theorem isNoneD_t (x : List PyData) : isNoneD (.tuple x) = false := rfl
@[simp] theorem isNoneD_l (x : List PyData) : isNoneD (.list x) = false := rfl
@[simp] theorem isNoneD_i (x : Int) : isNoneD (.int x) = false := rfl
@[simp] theorem isNoneD_s (x : Str) : isNoneD (.str x) = false := rfl

/-! ### comprehensions and loops -/
/-- one turn of a comprehension -/
def lcStep (vs : List Nat) (gs : GS) (fc : BS) (fd : DS) (x : PyData) (S : List SD) : Option (Option PyData × List SD) :=
  (gs x (borGo vs 0 S)).bind fun S1 => (fc S1).bind fun p => if p.1 = true then (fd p.2).map fun q => (some q.1, unbGo vs 0 S q.2) else some (none, unbGo vs 0 S p.2)
theorem lcGo_nil (vs : List Nat) (gs : GS) (fc : BS) (fd : DS) (S : List SD) : lcGo vs gs fc fd [] S = some ([], S) := rfl
theorem lcGo_cons (vs : List Nat) (gs : GS) (fc : BS) (fd : DS) (x : PyData) (xs : List PyData) (S : List SD) :
    lcGo vs gs fc fd (x :: xs) S = (lcStep vs gs fc fd x S).bind fun p => (lcGo vs gs fc fd xs p.2).map fun z => (p.1.toList ++ z.1, z.2) := by
  show ((gs x (borGo vs 0 S)).bind fun S1 => (fc S1).bind fun p => if p.1 = true then (fd p.2).bind fun q => (lcGo vs gs fc fd xs (unbGo vs 0 S q.2)).map fun z => (q.1 :: z.1, z.2) else lcGo vs gs fc fd xs (unbGo vs 0 S p.2)) = _
  unfold lcStep
  cases gs x (borGo vs 0 S) with
  | none => rfl
  | some S1 =>
    simp only [Option.bind_some]
    cases fc S1 with
    | none => rfl
    | some p =>
      simp only [Option.bind_some]
      cases hp : p.1 with
      | true =>
        simp only [if_true]
        cases fd p.2 with
        | none => rfl
        | some q => simp
      | false => simp
/-- the slots stay as they are -/
theorem lc_stable {vs : List Nat} {gs : GS} {fc : BS} {fd : DS} {S : List SD} (F : PyData → Option PyData) : ∀ (xs : List PyData), (∀ x ∈ xs, lcStep vs gs fc fd x S = some (F x, S)) → lcGo vs gs fc fd xs S = some (xs.filterMap F, S)
  | [], _ => rfl
  | x :: xs, h => by
    rw [lcGo_cons, h x (by simp)]
    simp only [Option.bind_some]
    rw [lc_stable F xs fun y hy => h y (List.mem_cons_of_mem _ hy)]
    cases hF : F x <;> simp [hF]
theorem lc_map {vs : List Nat} {gs : GS} {fc : BS} {fd : DS} {S : List SD} (F : PyData → PyData) (xs : List PyData) (h : ∀ x ∈ xs, lcStep vs gs fc fd x S = some (some (F x), S)) : lcGo vs gs fc fd xs S = some (xs.map F, S) := by
  rw [lc_stable (fun x => some (F x)) xs h]
  have : List.filterMap (fun x => some (F x)) xs = xs.map F := by induction xs with
    | nil => rfl
    | cons x xs ih => simp [ih fun y hy => h y (List.mem_cons_of_mem _ hy)]
  rw [this]
/-- the slots keep to I, each new item to R -/
theorem lc_inv {vs : List Nat} {gs : GS} {fc : BS} {fd : DS} (I : List SD → Prop) (R : PyData → Prop) : ∀ (xs : List PyData), (∀ x ∈ xs, ∀ S, I S → ∃ y S', lcStep vs gs fc fd x S = some (some y, S') ∧ I S' ∧ R y) → ∀ S, I S →
    ∃ ys S', lcGo vs gs fc fd xs S = some (ys, S') ∧ I S' ∧ ys.length = xs.length ∧ ∀ y ∈ ys, R y
  | [], _, S, hS => ⟨[], S, rfl, hS, rfl, by simp⟩
  | x :: xs, h, S, hS => by
    obtain ⟨y, S1, h1, h2, h3⟩ := h x (by simp) S hS
    obtain ⟨ys, S2, h4, h5, h6, h7⟩ := lc_inv I R xs (fun z hz => h z (List.mem_cons_of_mem _ hz)) S1 h2
    refine ⟨y :: ys, S2, ?_, h5, by simp [h6], fun z hz => ?_⟩
    · rw [lcGo_cons, h1]
      simp [h4]
    · rcases List.mem_cons.mp hz with rfl | hz
      · exact h3
      · exact h7 z hz
/-- .. with a filter -/
theorem lc_invF {vs : List Nat} {gs : GS} {fc : BS} {fd : DS} (I : List SD → Prop) : ∀ (xs : List PyData) (F : PyData → PyData), (∀ x ∈ xs, ∀ S, I S → ∃ (b : Bool) (S' : List SD), lcStep vs gs fc fd x S = some (if b then some (F x) else none, S') ∧ I S') → ∀ S, I S →
    ∃ (ys : List PyData) (S' : List SD), lcGo vs gs fc fd xs S = some (ys.map F, S') ∧ I S' ∧ ys.Sublist xs
  | [], _, _, S, hS => ⟨[], S, rfl, hS, .refl _⟩
  | x :: xs, F, h, S, hS => by
    obtain ⟨b, S1, h1, h2⟩ := h x (by simp) S hS
    obtain ⟨ys, S2, h4, h5, h6⟩ := lc_invF I xs F (fun z hz => h z (List.mem_cons_of_mem _ hz)) S1 h2
    cases b with
    | true => exact ⟨x :: ys, S2, by rw [lcGo_cons, h1]; simp [h4], h5, h6.cons₂ x⟩
    | false => exact ⟨ys, S2, by rw [lcGo_cons, h1]; simp [h4], h5, h6.cons x⟩
theorem forGo_nil (gs : GS) (fb : SSem) (S : List SD) : forGo gs fb [] S = some (.nx S) := rfl
theorem forGo_cons (gs : GS) (fb : SSem) (x : PyData) (xs : List PyData) (S : List SD) : forGo gs fb (x :: xs) S = ((gs x S).bind fun S1 => (fb S1).bind fun o => match o with
    | .nx S2 => forGo gs fb xs S2
    | .ct S2 => forGo gs fb xs S2
    | .bk S2 => some (.nx S2)
    | .rt r S2 => some (.rt r S2)) := rfl
/-- one turn of a loop that goes on -/
def forStep (gs : GS) (fb : SSem) (x : PyData) (S : List SD) : Option Out := (gs x S).bind fb
theorem for_one {gs : GS} {fb : SSem} {x : PyData} {xs : List PyData} {S S' : List SD} (h : forStep gs fb x S = some (.nx S')) : forGo gs fb (x :: xs) S = forGo gs fb xs S' := by
  unfold forStep at h
  rw [forGo_cons]
  cases q : gs x S with
  | none => rw [q] at h; cases h
  | some S1 =>
    rw [q] at h
    have h : fb S1 = some (.nx S') := h
    simp [h]
theorem for_ret {gs : GS} {fb : SSem} {x : PyData} {xs : List PyData} {S S' : List SD} {r : SD} (h : forStep gs fb x S = some (.rt r S')) : forGo gs fb (x :: xs) S = some (.rt r S') := by
  unfold forStep at h
  rw [forGo_cons]
  cases q : gs x S with
  | none => rw [q] at h; cases h
  | some S1 =>
    rw [q] at h
    have h : fb S1 = some (.rt r S') := h
    simp [h]
/-- the loop keeps to I (told by what has been gone through and what is to come) -/
theorem for_inv {gs : GS} {fb : SSem} (I : List PyData → List SD → Prop) (all : List PyData) : ∀ (xs pre : List PyData), pre ++ xs = all → (∀ pre x post S, pre ++ x :: post = all → I pre S → ∃ S', forStep gs fb x S = some (.nx S') ∧ I (pre ++ [x]) S') → ∀ S, I pre S →
    ∃ S', forGo gs fb xs S = some (.nx S') ∧ I all S'
  | [], pre, e, _, S, hS => ⟨S, rfl, by rw [← e]; simpa using hS⟩
  | x :: xs, pre, e, h, S, hS => by
    obtain ⟨S1, h1, h2⟩ := h pre x xs S e hS
    obtain ⟨S2, h3, h4⟩ := for_inv I all xs (pre ++ [x]) (by simpa using e) h S1 h2
    exact ⟨S2, by rw [for_one h1, h3], h4⟩
end DL

set_option Elab.async false
set_option linter.all false
set_option maxRecDepth 100000
set_option maxHeartbeats 4000000
/-! DM, part 2: plain facts of data. -/
namespace DL
open PySem L2

/-- what isinstance tells of -/
def okT : PyData → Bool
  | .dict kvs => kvs.isEmpty
  | _ => true
@[simp] theorem okT_n : okT .none = true := by simp only [okT]
@[simp] theorem okT_b (b : Bool) : okT (.bool b) = true := by simp only [okT]
@[simp] theorem okT_i (b : Int) : okT (.int b) = true := by simp only [okT]
@[simp] theorem okT_s (b : Str) : okT (.str b) = true := by simp only [okT]
@[simp] theorem okT_t (b : List PyData) : okT (.tuple b) = true := by simp only [okT]
@[simp] theorem okT_l (b : List PyData) : okT (.list b) = true := by simp only [okT]
@[simp] theorem okT_d : okT (.dict []) = true := by simp [okT]
theorem okT_dict {kvs : List (PyData × PyData)} (h : okT (.dict kvs) = true) : kvs = [] := by
  cases kvs with
  | nil => rfl
  | cons a b => cases h
def isInt : PyData → Bool
  | .int _ => true
  | _ => false
def isIn (a b : Int) : PyData → Bool
  | .int i => decide (a ≤ i) && decide (i ≤ b)
  | _ => false
theorem isIn_some {a b : Int} {v : PyData} (h : isIn a b v = true) : ∃ i, v = .int i ∧ a ≤ i ∧ i ≤ b := by
  cases v with
  | int i => simp [isIn] at h; exact ⟨i, rfl, h.1, h.2⟩
  | _ => cases h
theorem ints_of {a b : Int} : ∀ {xs : List PyData}, xs.all (isIn a b) = true → ∃ ns : List Int, xs = ns.map .int ∧ ∀ n ∈ ns, a ≤ n ∧ n ≤ b
  | [], _ => ⟨[], rfl, by simp⟩
  | x :: xs, h => by
    rw [List.all_cons, Bool.and_eq_true] at h
    obtain ⟨i, rfl, h1, h2⟩ := isIn_some h.1
    obtain ⟨ns, rfl, hn⟩ := ints_of h.2
    refine ⟨i :: ns, rfl, fun n hm => ?_⟩
    rcases List.mem_cons.mp hm with rfl | hm
    · exact ⟨h1, h2⟩
    · exact hn n hm
theorem all_ints {a b : Int} {ns : List Int} : (ns.map PyData.int).all (isIn a b) = ns.all fun n => decide (a ≤ n) && decide (n ≤ b) := by
  induction ns with
  | nil => rfl
  | cons n ns ih => rw [List.map_cons, List.all_cons, List.all_cons, ih]; rfl
@[simp] theorem at_0 (a : PyData) (r : List PyData) : atI (a :: r) 0 = some a := by simp [atI, ixN]
theorem atI_nat' (xs : List PyData) (k : Nat) : atI xs (k : Int) = xs[k]? := by
  unfold atI ixN
  simp only [Int.natCast_nonneg, if_true]
  by_cases h : k < xs.length
  · rw [if_pos (by omega)]; simp
  · rw [if_neg (by omega), List.getElem?_eq_none (by omega)]; rfl
@[simp] theorem at_1 (a b : PyData) (r : List PyData) : atI (a :: b :: r) 1 = some b := atI_nat' _ 1
@[simp] theorem at_2 (a b c : PyData) (r : List PyData) : atI (a :: b :: c :: r) 2 = some c := atI_nat' _ 2
@[simp] theorem at_3 (a b c d : PyData) (r : List PyData) : atI (a :: b :: c :: d :: r) 3 = some d := atI_nat' _ 3
@[simp] theorem at_4 (a b c d e : PyData) (r : List PyData) : atI (a :: b :: c :: d :: e :: r) 4 = some e := atI_nat' _ 4
theorem cut_to (xs : List PyData) (k : Nat) : cutD xs none (some (k : Int)) = xs.take k := by
  unfold cutD
  rw [HT.sIx_none, HT.sIx_nat]
  simp [List.take_eq_take_iff]
theorem cut_from (xs : List PyData) (k : Nat) : cutD xs (some (k : Int)) none = xs.drop k := by
  unfold cutD
  rw [HT.sIx_none, HT.sIx_nat]
  by_cases h : k ≤ xs.length
  · rw [Nat.min_eq_left h, List.take_of_length_le (by simp)]
  · rw [Nat.min_eq_right (by omega), List.drop_eq_nil_of_le (by omega), List.drop_eq_nil_of_le (by omega)]; simp
theorem cut_to' (xs : List PyData) (k : Int) (n : Nat) (h : k = n) : cutD xs none (some k) = xs.take n := by rw [h]; exact cut_to xs n
theorem cut_from' (xs : List PyData) (k : Int) (n : Nat) (h : k = n) : cutD xs (some k) none = xs.drop n := by rw [h]; exact cut_from xs n
/-! rising -/
def rising : List Int → Bool
  | [] => true
  | [_] => true
  | x :: y :: r => decide (x < y) && rising (y :: r)
theorem rising_pw : ∀ ns : List Int, rising ns = true ↔ ns.Pairwise (· < ·)
  | [] => by simp [rising]
  | [x] => by simp [rising]
  | x :: y :: r => by
    have ih := rising_pw (y :: r)
    simp only [rising, Bool.and_eq_true, decide_eq_true_eq, ih]
    constructor
    · rintro ⟨h1, h2⟩
      refine List.pairwise_cons.mpr ⟨fun z hz => ?_, h2⟩
      rcases List.mem_cons.mp hz with rfl | hz
      · exact h1
      · exact Int.lt_trans h1 ((List.pairwise_cons.mp h2).1 z hz)
    · intro h
      have h' := List.pairwise_cons.mp h
      exact ⟨h'.1 y (by simp), h'.2⟩
theorem setI_self : ∀ {ns : List Int}, ns.Pairwise (· < ·) → setI ns = ns := fun {ns} h => strict_unique (setI_sorted ns) h fun k => setI_mem k ns
theorem rising_set (ns : List Int) : (decide (ns = setI ns)) = rising ns := by
  rw [Bool.eq_iff_iff, decide_eq_true_eq, rising_pw]
  exact ⟨fun h => by rw [h]; exact setI_sorted ns, fun h => (setI_self h).symm⟩
theorem eqvAll_ints : ∀ ns ms : List Int, PyData.eqvAll (ns.map .int) (ms.map .int) = decide (ns = ms)
  | [], [] => by simp [PyData.eqvAll]
  | [], _ :: _ => by simp [PyData.eqvAll]
  | _ :: _, [] => by simp [PyData.eqvAll]
  | n :: ns, m :: ms => by
    simp only [List.map_cons, PyData.eqvAll, PyData.eqv, eqvAll_ints ns ms]
    rw [Bool.eq_iff_iff]
    simp
theorem fit_ints (n : Nat) (ns : List Int) : fitN (n + 1) (.list (ns.map .int)) = true := by
  rw [fit_list, List.all_eq_true]
  intro x hx
  obtain ⟨i, _, rfl⟩ := List.mem_map.mp hx
  exact fit_int n i
theorem fit_intsT (n : Nat) (ns : List Int) : fitN (n + 1) (.tuple (ns.map .int)) = true := by
  rw [fit_tuple, List.all_eq_true]
  intro x hx
  obtain ⟨i, _, rfl⟩ := List.mem_map.mp hx
  exact fit_int n i
theorem dEq_ints (ns ms : List Int) : dEq (.list (ns.map .int)) (.list (ms.map .int)) = some (.bool (decide (ns = ms))) := by
  have : dEq (.list (ns.map .int)) (.list (ms.map .int)) = if fitN 60 (.list (ns.map .int)) = true ∧ fitN 60 (.list (ms.map .int)) = true then some (.bool (PyData.eqv (.list (ns.map .int)) (.list (ms.map .int)))) else none := rfl
  rw [this, if_pos ⟨fit_ints 59 ns, fit_ints 59 ms⟩]
  simp only [PyData.eqv, eqvAll_ints]
theorem dSetL_ints {ns : List Int} (h1 : ns.length ≤ 1000) (h2 : (setI ns).length < 64) : dSetL [.tuple (ns.map .int)] = some ((setI ns).map .int) := by
  simp only [dSetL, dInts_map, Option.bind_some]
  rw [if_pos ⟨h1, h2⟩]
/-- few members: within a .. b -/
theorem setI_few {ns : List Int} {m : Nat} (h : ∀ n ∈ ns, 0 ≤ n ∧ n < m) : (setI ns).length ≤ m := by
  have hs := setI_sorted ns
  have hm : ∀ k ∈ setI ns, 0 ≤ k ∧ k < m := fun k hk => h k ((setI_mem k ns).mp hk)
  generalize setI ns = l at hs hm
  have key : ∀ (l : List Int) (a : Int), l.Pairwise (· < ·) → (∀ k ∈ l, a ≤ k ∧ k < m) → 0 ≤ a → (l.length : Int) ≤ if a ≤ m then m - a else 0 := by
    intro l
    induction l with
    | nil => intro a _ _ ha; simp; split <;> omega
    | cons x l ih =>
      intro a hp hk ha
      have hp' := List.pairwise_cons.mp hp
      have hx := hk x (by simp)
      have := ih (x + 1) hp'.2 (fun k hk' => ⟨by have := hp'.1 k hk'; omega, (hk k (List.mem_cons_of_mem _ hk')).2⟩) (by omega)
      simp only [List.length_cons]
      split at this <;> split <;> omega
  have := key l 0 hs hm (Int.le_refl 0)
  split at this <;> omega
end DL

set_option Elab.async false
set_option linter.all false
set_option maxRecDepth 100000
set_option maxHeartbeats 4000000
/-! DM, part 3: first ones, indices, filtered counts. -/
namespace DL
open PySem L2

theorem fit_self {n : Nat} {d : PyData} (h : fitN n d = true) : PyData.eqv d d = true := SeqAt.eqv_refl d (fit_lay h)
def addF (acc : List PyData) (x : PyData) : List PyData := if (acc.any fun z => PyData.eqv z x) = true then acc else acc ++ [x]
def byF (xs : List PyData) : List PyData := xs.foldl addF []
theorem byF_snoc (xs : List PyData) (x : PyData) : byF (xs ++ [x]) = addF (byF xs) x := by simp [byF, List.foldl_append]
@[simp] theorem byF_nil : byF [] = [] := rfl
theorem snoc_ind {α : Type} {P : List α → Prop} (h0 : P []) (h1 : ∀ xs x, P xs → P (xs ++ [x])) : ∀ xs, P xs := fun xs => by
  have : ∀ n, ∀ xs : List α, xs.length = n → P xs := by
    intro n
    induction n with
    | zero => intro xs h; rw [List.eq_nil_of_length_eq_zero h]; exact h0
    | succ n ih =>
      intro xs h
      have hne : xs ≠ [] := fun e => by rw [e] at h; cases h
      rw [← List.dropLast_concat_getLast hne]
      exact h1 _ _ (ih _ (by rw [List.length_dropLast, h]; rfl))
  exact this _ xs rfl
theorem byF_sub : ∀ (xs : List PyData), ∀ y ∈ byF xs, y ∈ xs := snoc_ind (by simp) fun xs x ih y hy => by
  rw [byF_snoc] at hy
  unfold addF at hy
  split at hy
  · exact List.mem_append_left _ (ih y hy)
  · rcases List.mem_append.mp hy with h | h
    · exact List.mem_append_left _ (ih y h)
    · exact List.mem_append_right _ h
theorem byF_len : ∀ (xs : List PyData), (byF xs).length ≤ xs.length := snoc_ind (by simp) fun xs x ih => by
  rw [byF_snoc]
  unfold addF
  split <;> simp <;> omega
theorem byF_has {n : Nat} : ∀ (xs : List PyData), (∀ x ∈ xs, fitN n x = true) → ∀ x ∈ xs, (byF xs).any (fun z => PyData.eqv z x) = true := snoc_ind (by simp) fun xs x ih hf y hy => by
  rw [byF_snoc]
  unfold addF
  rcases List.mem_append.mp hy with h | h
  · have := ih (fun z hz => hf z (List.mem_append_left _ hz)) y h
    split
    · exact this
    · rw [List.any_append, this]; rfl
  · have hx : y = x := by simpa using h
    subst hx
    split
    · assumption
    · rw [List.any_append]
      simp [fit_self (hf y hy)]
theorem byF_ne {n : Nat} {xs : List PyData} (h : xs ≠ []) (hf : ∀ x ∈ xs, fitN n x = true) : 1 ≤ (byF xs).length := by
  cases xs with
  | nil => exact absurd rfl h
  | cons x r =>
    have := byF_has (x :: r) hf x (by simp)
    cases q : byF (x :: r) with
    | nil => rw [q] at this; simp at this
    | cons a b => simp
theorem firstIx_any {d : PyData} : ∀ {xs : List PyData}, xs.any (fun z => PyData.eqv z d) = true → ∃ j, firstIx d xs = some j ∧ j < xs.length
  | [], h => by simp at h
  | z :: r, h => by
    unfold firstIx
    by_cases hz : PyData.eqv z d = true
    · exact ⟨0, by rw [if_pos hz], by simp⟩
    · rw [if_neg hz]
      have : r.any (fun z => PyData.eqv z d) = true := by simpa [hz] using h
      obtain ⟨j, h1, h2⟩ := firstIx_any this
      exact ⟨j + 1, by rw [h1]; rfl, by simp; omega⟩
/-- where each item's like stands among the first ones -/
def numb (xs : List PyData) : List Int := xs.map fun x => (((firstIx x (byF xs)).getD 0 : Nat) : Int)
theorem numb_len (xs : List PyData) : (numb xs).length = xs.length := by simp [numb]
theorem numb_rng {n : Nat} {xs : List PyData} (hf : ∀ x ∈ xs, fitN n x = true) : ∀ k ∈ numb xs, 0 ≤ k ∧ k < (byF xs).length := fun k hk => by
  obtain ⟨x, hx, rfl⟩ := List.mem_map.mp hk
  obtain ⟨j, h1, h2⟩ := firstIx_any (byF_has xs hf x hx)
  rw [h1]
  simp; omega
theorem fit_byF {n : Nat} {xs : List PyData} (hf : ∀ x ∈ xs, fitN n x = true) : fitN (n + 1) (.list (byF xs)) = true := by
  rw [fit_list, List.all_eq_true]
  exact fun x hx => hf x (byF_sub xs x hx)
/-- rising, within 0 .. m - 1 -/
def LotI (m : Int) (ns : List Int) : Prop := ns.Pairwise (· < ·) ∧ ∀ n ∈ ns, 0 ≤ n ∧ n < m
def selE (p : PyData → Bool) : PyData → Option PyData
  | .tuple [.int a, y] => if p y = true then some (.int a) else none
  | _ => none
def selR (p : Int → Bool) : PyData → Option PyData
  | .int a => if p a = true then some (.int a) else none
  | _ => none
theorem enumF (p : PyData → Bool) : ∀ (c : Int) (xs : List PyData), ∃ ns : List Int, (enumD c xs).filterMap (selE p) = ns.map PyData.int ∧ ns.Pairwise (· < ·) ∧ ∀ n ∈ ns, c ≤ n ∧ n < c + xs.length
  | c, [] => ⟨[], rfl, .nil, by simp⟩
  | c, x :: xs => by
    obtain ⟨ns, h1, h2, h3⟩ := enumF p (c + 1) xs
    by_cases hp : p x = true
    · refine ⟨c :: ns, ?_, List.pairwise_cons.mpr ⟨fun n hn => by have := h3 n hn; omega, h2⟩, fun n hn => ?_⟩
      · simp [enumD, selE, hp, h1]
      · rcases List.mem_cons.mp hn with rfl | hn
        · simp; omega
        · have := h3 n hn; simp; omega
    · refine ⟨ns, ?_, h2, fun n hn => ?_⟩
      · simp [enumD, selE, hp, h1]
      · have := h3 n hn; simp; omega
theorem enumD_mem {y : PyData} : ∀ {c : Int} {xs : List PyData}, y ∈ enumD c xs → ∃ a x, y = .tuple [.int a, x] ∧ x ∈ xs ∧ c ≤ a ∧ a < c + xs.length
  | c, [], h => by simp [enumD] at h
  | c, x :: xs, h => by
    simp only [enumD, List.mem_cons] at h
    rcases h with h | h
    · exact ⟨c, x, h, by simp, by omega, by simp; omega⟩
    · obtain ⟨a, z, h1, h2, h3, h4⟩ := enumD_mem h
      exact ⟨a, z, h1, by simp [h2], by omega, by simp; omega⟩
theorem rngF (p : Int → Bool) (n : Nat) : ∃ ns : List Int, (rngD 0 n).filterMap (selR p) = ns.map PyData.int ∧ LotI n ns := by
  refine ⟨((List.range n).map fun (i : Nat) => (i : Int)).filter p, ?_, ?_, fun k hk => ?_⟩
  · unfold rngD
    rw [List.filterMap_map]
    have key : ∀ l : List Nat, List.filterMap (fun i : Nat => selR p (.int (0 + (i : Int)))) l = List.map PyData.int (List.filter p (l.map fun (i : Nat) => (i : Int))) := by
      intro l
      induction l with
      | nil => rfl
      | cons i l ih =>
        rw [List.filterMap_cons, ih]
        by_cases hp : p (i : Int) = true <;> simp [selR, hp]
    exact key _
  · refine List.Pairwise.filter _ ?_
    rw [List.pairwise_map]
    exact List.pairwise_lt_range.imp fun h => by omega
  · have := (List.mem_filter.mp hk).1
    obtain ⟨i, hi, rfl⟩ := List.mem_map.mp this
    have := List.mem_range.mp hi
    omega
theorem rngD_mem {y : PyData} {n : Nat} (h : y ∈ rngD 0 n) : ∃ i : Nat, y = .int (i : Int) ∧ i < n := by
  unfold rngD at h
  obtain ⟨i, hi, rfl⟩ := List.mem_map.mp h
  exact ⟨i, by simp, List.mem_range.mp hi⟩
end DL

set_option Elab.async false
set_option linter.all false
set_option maxRecDepth 100000
set_option maxHeartbeats 4000000
/-! DM, part 4: how long a repr is. -/
namespace DL
open PySem L2
mutual
def wt : PyData → Nat
  | .none => 4
  | .bool _ => 5
  | .int _ => 21
  | .str x => (reprText x).length
  | .list xs => wtL xs + 3
  | .tuple xs => wtL xs + 3
  | .dict _ => 0
def wtL : List PyData → Nat
  | [] => 0
  | x :: xs => wt x + 2 + wtL xs
end
mutual
def okR : PyData → Bool
  | .none => true
  | .bool _ => true
  | .int i => decide (i.natAbs < 100000000000000000000)
  | .str _ => true
  | .list xs => okRL xs
  | .tuple xs => okRL xs
  | .dict _ => false
def okRL : List PyData → Bool
  | [] => true
  | x :: xs => okR x && okRL xs
end
mutual
theorem shown_le : ∀ d : PyData, okR d = true → d.shown.length ≤ wt d ∧ d.showable = true ∧ d.hasDict = false
  | .none, _ => ⟨by simp only [PyData.shown, wt]; decide, by simp only [PyData.showable], by simp only [PyData.hasDict]⟩
  | .bool b, _ => ⟨by cases b <;> simp only [PyData.shown, wt] <;> decide, by simp only [PyData.showable], by simp only [PyData.hasDict]⟩
  | .int i, h => by
    have h : i.natAbs < 10 ^ 20 := by simpa [okR] using h
    refine ⟨?_, ?_, by simp only [PyData.hasDict]⟩
    · simp only [PyData.shown, wt]
      exact Nat.le_trans (Nat.le_of_eq (ofString_length _)) (int_text_length_le10 (k := 20) (by decide) h)
    · simp only [PyData.showable, decide_eq_true_eq]
      by_cases h0 : i.natAbs = 0
      · rw [h0]; decide
      · exact (Nat.log2_lt h0).mpr (Nat.lt_of_lt_of_le h (Nat.le_trans (by decide : 10 ^ 20 ≤ 2 ^ 67) (Nat.pow_le_pow_right (by decide) (by decide))))
  | .str x, _ => ⟨by simp only [PyData.shown, wt]; exact Nat.le_refl _, by simp only [PyData.showable], by simp only [PyData.hasDict]⟩
  | .list xs, h => by
    obtain ⟨h1, h2, h3, h4⟩ := shownAll_le xs (by simpa [okR] using h)
    refine ⟨?_, by simpa only [PyData.showable] using h2, by simpa only [PyData.hasDict] using h3⟩
    simp only [PyData.shown, wt]
    have := listText_len_le (PyData.shownAll xs)
    omega
  | .tuple xs, h => by
    obtain ⟨h1, h2, h3, h4⟩ := shownAll_le xs (by simpa [okR] using h)
    refine ⟨?_, by simpa only [PyData.showable] using h2, by simpa only [PyData.hasDict] using h3⟩
    simp only [PyData.shown, wt]
    have := tupleText_len_le (PyData.shownAll xs)
    omega
  | .dict _, h => by simp [okR] at h
theorem shownAll_le : ∀ xs : List PyData, okRL xs = true → ((PyData.shownAll xs).map (·.length)).sum + 2 * (PyData.shownAll xs).length ≤ wtL xs ∧ PyData.showableAll xs = true ∧ PyData.hasDictAll xs = false ∧ (PyData.shownAll xs).length = xs.length
  | [], _ => ⟨by simp [PyData.shownAll, wtL], by simp only [PyData.showableAll], by simp only [PyData.hasDictAll], by simp [PyData.shownAll]⟩
  | x :: xs, h => by
    have h' := Bool.and_eq_true_iff.mp (show (okR x && okRL xs) = true by simpa [okRL] using h)
    obtain ⟨a1, a2, a3⟩ := shown_le x h'.1
    obtain ⟨b1, b2, b3, b4⟩ := shownAll_le xs h'.2
    refine ⟨?_, by simp only [PyData.showableAll, a2, b2, Bool.and_self], by simp only [PyData.hasDictAll, a3, b3, Bool.or_self], by simp [PyData.shownAll, b4]⟩
    simp only [PyData.shownAll, wtL, List.map_cons, List.sum_cons, List.length_cons]
    omega
end
theorem reprOk_of {d : PyData} (h1 : okR d = true) (h2 : wt d ≤ 1000000) (h3 : d.depth ≤ 60) : reprOk d = true := by
  obtain ⟨a1, a2, a3⟩ := shown_le d h1
  have a4 : d.shown.length ≤ 1000000 := by omega
  simp only [reprOk, a2, a3, a4, h3, Bool.not_false, Bool.true_or, Bool.and_self, decide_true]
/-- items of depth n at most, w signs in all -/
structure G (n w : Nat) (xs : List PyData) : Prop where
  ok : okRL xs = true
  wt : wtL xs ≤ w
  dp : ∀ x ∈ xs, x.depth ≤ n
theorem okRL_all : ∀ xs : List PyData, okRL xs = true ↔ ∀ x ∈ xs, okR x = true
  | [] => by simp [okRL]
  | x :: xs => by simp [okRL, okRL_all xs]
theorem wtL_append : ∀ xs ys : List PyData, wtL (xs ++ ys) = wtL xs + wtL ys
  | [], ys => by simp [wtL]
  | x :: xs, ys => by simp only [List.cons_append, wtL, wtL_append xs ys]; omega
theorem wtL_reverse (xs : List PyData) : wtL xs.reverse = wtL xs := by
  induction xs with
  | nil => rfl
  | cons x xs ih => rw [List.reverse_cons, wtL_append, ih]; simp only [wtL]; omega
variable {n m w v : Nat} {xs ys : List PyData}
theorem G.append (a : G n w xs) (b : G n v ys) : G n (w + v) (xs ++ ys) := by
  refine ⟨(okRL_all _).mpr fun x hx => ?_, by rw [wtL_append]; have := a.wt; have := b.wt; omega, fun x hx => ?_⟩
  · rcases List.mem_append.mp hx with h | h
    · exact (okRL_all _).mp a.ok x h
    · exact (okRL_all _).mp b.ok x h
  · rcases List.mem_append.mp hx with h | h
    · exact a.dp x h
    · exact b.dp x h
theorem G.take (a : G n w xs) (k : Nat) : G n w (xs.take k) := by
  have e := wtL_append (xs.take k) (xs.drop k)
  rw [List.take_append_drop] at e
  exact ⟨(okRL_all _).mpr fun x hx => (okRL_all _).mp a.ok x (List.mem_of_mem_take hx), by have := a.wt; omega, fun x hx => a.dp x (List.mem_of_mem_take hx)⟩
theorem G.drop (a : G n w xs) (k : Nat) : G n w (xs.drop k) := by
  have e := wtL_append (xs.take k) (xs.drop k)
  rw [List.take_append_drop] at e
  exact ⟨(okRL_all _).mpr fun x hx => (okRL_all _).mp a.ok x (List.mem_of_mem_drop hx), by have := a.wt; omega, fun x hx => a.dp x (List.mem_of_mem_drop hx)⟩
theorem G.reverse (a : G n w xs) : G n w xs.reverse :=
  ⟨(okRL_all _).mpr fun x hx => (okRL_all _).mp a.ok x (by simpa using hx), by rw [wtL_reverse]; exact a.wt, fun x hx => a.dp x (by simpa using hx)⟩
theorem G.mono (a : G n w xs) (h1 : n ≤ m) (h2 : w ≤ v) : G m v xs := ⟨a.ok, by have := a.wt; omega, fun x hx => by have := a.dp x hx; omega⟩
theorem G.nil : G n w [] := ⟨by simp [okRL], by simp [wtL], by simp⟩
theorem G.rep (a : G n w xs) : ∀ k : Nat, G n (k * w) (List.replicate k xs).flatten
  | 0 => .nil
  | k + 1 => by
    rw [List.replicate_succ, List.flatten_cons]
    exact (a.append (G.rep a k)).mono (Nat.le_refl _) (by rw [Nat.succ_mul]; omega)
theorem G.one {x : PyData} (h1 : okR x = true) (h2 : DL.wt x + 2 ≤ w) (h3 : x.depth ≤ n) : G n w [x] := ⟨by simp [okRL, h1], by simp only [wtL]; omega, by simpa using h3⟩
theorem depth_tuple (h : ∀ x ∈ xs, x.depth ≤ n) : (PyData.tuple xs).depth ≤ n + 1 := by
  simp only [PyData.depth]
  have : PyData.depthAll xs ≤ n := by
    have e := depthAll_le n xs
    rw [← decide_eq_true_eq (p := PyData.depthAll xs ≤ n), e, List.all_eq_true]
    intro x hx
    simpa using h x hx
  omega
theorem depth_list (h : ∀ x ∈ xs, x.depth ≤ n) : (PyData.list xs).depth ≤ n + 1 := by
  have := depth_tuple h
  simpa only [PyData.depth] using this
theorem G.tuple (a : G n w xs) : okR (.tuple xs) = true ∧ DL.wt (.tuple xs) ≤ w + 3 ∧ (PyData.tuple xs).depth ≤ n + 1 := ⟨by simpa only [okR] using a.ok, by simp only [DL.wt]; have := a.wt; omega, depth_tuple a.dp⟩
theorem G.list (a : G n w xs) : okR (.list xs) = true ∧ DL.wt (.list xs) ≤ w + 3 ∧ (PyData.list xs).depth ≤ n + 1 := ⟨by simpa only [okR] using a.ok, by simp only [DL.wt]; have := a.wt; omega, depth_list a.dp⟩
theorem G.ints {ns : List Int} (h : ∀ k ∈ ns, -1000 ≤ k ∧ k ≤ 1000) : G 0 (23 * ns.length) (ns.map .int) := by
  induction ns with
  | nil => exact .nil
  | cons k ns ih =>
    have hk := h k (by simp)
    have := (G.one (n := 0) (w := 23) (x := .int k) (by simp only [okR, decide_eq_true_eq]; omega) (by simp only [DL.wt]; omega) (by simp only [PyData.depth]; omega)).append (ih fun j hj => h j (List.mem_cons_of_mem _ hj))
    simp only [List.map_cons, List.length_cons]
    exact this.mono (Nat.le_refl _) (by omega)
end DL

set_option Elab.async false
set_option linter.all false
set_option maxRecDepth 100000
set_option maxHeartbeats 4000000
/-! WL0: the mirrors stepped through from the front (for simp): what follows stays closed until it is reached. -/
namespace DL0
open PySem L2 DL

/-- r ends, with Q -/
def OV {α : Type} (r : Option α) (Q : α → Prop) : Prop := ∃ a, r = some a ∧ Q a
section
variable {α β : Type} {r r' : Option α} {Q Q' : α → Prop}
theorem OV_congr (h : r = r') : OV r Q = OV r' Q := by rw [h]
@[simp] theorem OV_some (a : α) : OV (some a) Q = Q a := propext ⟨fun ⟨_, h, q⟩ => (by cases h; exact q), fun q => ⟨a, rfl, q⟩⟩
@[simp] theorem OV_none : OV (none : Option α) Q = False := propext ⟨fun ⟨_, h, _⟩ => (by cases h), False.elim⟩
@[simp] theorem OV_bind (f : β → Option α) (s : Option β) : OV (s.bind f) Q = OV s fun a => OV (f a) Q := by cases s <;> simp
@[simp] theorem OV_map (f : β → α) (s : Option β) : OV (s.map f) Q = OV s fun a => Q (f a) := by cases s <;> simp
@[simp] theorem OV_ite (c : Prop) [Decidable c] (a b : Option α) : OV (if c then a else b) Q = if c then OV a Q else OV b Q := by split <;> rfl
theorem OV.use {P : α → Prop} (h : OV r P) (k : ∀ a, P a → Q a) : OV r Q := by obtain ⟨a, h1, h2⟩ := h; exact ⟨a, h1, k a h2⟩
theorem OV.eq {c : α} (h : OV r fun q => q = c) : r = some c := by obtain ⟨a, h1, h2⟩ := h; rw [h1, h2]
theorem OV.of {c : α} (h : r = some c) (q : Q c) : OV r Q := ⟨c, h, q⟩
end

/-- f, read at the slots S, ends, with Q -/
def WP {β : Type} (f : List SD → Option β) (S : List SD) (Q : β → Prop) : Prop := OV (f S) Q
theorem WP_congr {β : Type} {f : List SD → Option β} {S S' : List SD} {Q : β → Prop} (h : S = S') : WP f S Q = WP f S' Q := by rw [h]
theorem WP.use {β : Type} {f : List SD → Option β} {S : List SD} {P Q : β → Prop} (h : WP f S P) (k : ∀ a, P a → Q a) : WP f S Q := OV.use h k
/-- a target -/
def WG (g : GS) (x : PyData) (S : List SD) (Q : List SD → Prop) : Prop := OV (g x S) Q
theorem WG_congr {g : GS} {x x' : PyData} {S S' : List SD} {Q : List SD → Prop} (hx : x = x') (h : S = S') : WG g x S Q = WG g x' S' Q := by rw [h, hx]
def WGs (g : List PyData → List SD → Option (List SD)) (x : List PyData) (S : List SD) (Q : List SD → Prop) : Prop := OV (g x S) Q
theorem WGs_congr {g : List PyData → List SD → Option (List SD)} {x x' : List PyData} {S S' : List SD} {Q : List SD → Prop} (hx : x = x') (h : S = S') : WGs g x S Q = WGs g x' S' Q := by rw [h, hx]
section
variable {S : List SD} {Q : Op × List SD → Prop} {QB : Bool × List SD → Prop} {QA : List Op × List SD → Prop} {QL : List PyData × List SD → Prop} {QD : PyData × List SD → Prop} {QO : Out → Prop} {QV : SD × List SD → Prop} {QR : (Int × Int) × List SD → Prop} {QP : Option Int × List SD → Prop} {QG : List SD → Prop}
@[simp] theorem w_var (i : Nat) : WP (sVar i) S Q = (sdTold (S[i]?) = true ∧ Q (.slot i, S)) := by
  show OV (if sdTold (S[i]?) = true then some (Op.slot i, S) else none) Q = _
  by_cases h : sdTold (S[i]?) = true <;> simp [h]
@[simp] theorem w_c (x : PyData) : WP (sC x) S Q = Q (.dat x, S) := OV_some _
@[simp] theorem w_take (f : ES) : WP (sTake f) S QD = WP f S fun p => OV (takeO p.2 p.1) QD := OV_bind _ _
@[simp] theorem w_dat (f : DS) : WP (sDat f) S Q = WP f S fun p => Q (.dat p.1, p.2) := OV_map _ _
@[simp] theorem w_keep (f : LS) : WP (sKeep f) S Q = WP f S fun p => Q (.dat (.list p.1), p.2) := OV_map _ _
@[simp] theorem w_nil : WP sNil S QA = QA ([], S) := OV_some _
@[simp] theorem w_cons (f : ES) (g : AS) : WP (sCons f g) S QA = WP f S fun p => WP g p.2 fun q => QA (p.1 :: q.1, q.2) := by
  show OV ((f S).bind fun p => (g p.2).map fun q => (p.1 :: q.1, q.2)) QA = _
  simp only [OV_bind, OV_map]; rfl
@[simp] theorem w_bin (g : PyData → PyData → Option PyData) (f f' : ES) : WP (sBin g f f') S Q = WP f S fun p => WP f' p.2 fun q => OV (p.1.get q.2) fun x => OV (q.1.get q.2) fun y => OV (g x y) fun z => Q (.dat z, q.2) := by
  show OV ((f S).bind fun p => (f' p.2).bind fun q => (p.1.get q.2).bind fun x => (q.1.get q.2).bind fun y => (g x y).map fun z => (Op.dat z, q.2)) Q = _
  simp only [OV_bind, OV_map]; rfl
@[simp] theorem w_binL (g : PyData → PyData → Option (List PyData)) (f f' : ES) : WP (sBinL g f f') S QL = WP f S fun p => WP f' p.2 fun q => OV (p.1.get q.2) fun x => OV (q.1.get q.2) fun y => OV (g x y) fun z => QL (z, q.2) := by
  show OV ((f S).bind fun p => (f' p.2).bind fun q => (p.1.get q.2).bind fun x => (q.1.get q.2).bind fun y => (g x y).map fun z => (z, q.2)) QL = _
  simp only [OV_bind, OV_map]; rfl
@[simp] theorem w_test (f : ES) : WP (sTest f) S QB = WP f S fun p => OV (p.1.get p.2) fun x => OV (dBool x) fun b => QB (b, p.2) := by
  show OV ((f S).bind fun p => (p.1.get p.2).bind fun x => (dBool x).map fun b => (b, p.2)) QB = _
  simp only [OV_bind, OV_map]; rfl
@[simp] theorem w_and (f g : BS) : WP (sAnd f g) S QB = WP f S fun p => if p.1 = true then WP g p.2 QB else QB (false, p.2) := by
  show OV ((f S).bind fun p => if p.1 = true then g p.2 else some (false, p.2)) QB = _
  simp only [OV_bind, OV_ite, OV_some]; rfl
@[simp] theorem w_or (f g : BS) : WP (sOr f g) S QB = WP f S fun p => if p.1 = true then QB (true, p.2) else WP g p.2 QB := by
  show OV ((f S).bind fun p => if p.1 = true then some (true, p.2) else g p.2) QB = _
  simp only [OV_bind, OV_ite, OV_some]; rfl
@[simp] theorem w_not (f : BS) : WP (sNot f) S QB = WP f S fun p => QB (!p.1, p.2) := OV_map _ _
@[simp] theorem w_andV (f g : ES) : WP (sAndV f g) S Q = WP f S fun p => OV (p.1.get p.2) fun x => OV (dBool x) fun c => if c = true then WP g p.2 Q else Q (.dat (.bool false), p.2) := by
  show OV ((f S).bind fun p => (p.1.get p.2).bind fun x => (dBool x).bind fun c => if c = true then g p.2 else some (.dat (.bool false), p.2)) Q = _
  simp only [OV_bind, OV_ite, OV_some]; rfl
@[simp] theorem w_orV (f g : ES) : WP (sOrV f g) S Q = WP f S fun p => OV (p.1.get p.2) fun x => OV (dBool x) fun c => if c = true then Q (.dat (.bool true), p.2) else WP g p.2 Q := by
  show OV ((f S).bind fun p => (p.1.get p.2).bind fun x => (dBool x).bind fun c => if c = true then some (.dat (.bool true), p.2) else g p.2) Q = _
  simp only [OV_bind, OV_ite, OV_some]; rfl
@[simp] theorem w_notV (f : ES) : WP (sNotV f) S Q = WP f S fun p => OV (p.1.get p.2) fun x => OV (dBool x) fun c => Q (.dat (.bool (!c)), p.2) := by
  show OV ((f S).bind fun p => (p.1.get p.2).bind fun x => (dBool x).map fun c => (.dat (.bool (!c)), p.2)) Q = _
  simp only [OV_bind, OV_map]; rfl
@[simp] theorem w_if {α : Type} (t : BS) (f g : List SD → Option α) {Q : α → Prop} : WP (sIf t f g) S Q = WP t S fun p => if p.1 = true then WP f p.2 Q else WP g p.2 Q := by
  show OV ((t S).bind fun p => if p.1 = true then f p.2 else g p.2) Q = _
  simp only [OV_bind, OV_ite]; rfl
@[simp] theorem w_chain (g g' : PyData → PyData → Option PyData) (f f' f'' : ES) : WP (sChain g g' f f' f'') S Q = WP f S fun p => WP f' p.2 fun q => OV (p.1.get q.2) fun x => OV (q.1.get q.2) fun y => OV (g x y) fun z => OV (dBool z) fun k =>
    if k = true then WP f'' q.2 fun s => OV (q.1.get s.2) fun y' => OV (s.1.get s.2) fun w => OV (g' y' w) fun z' => Q (.dat z', s.2) else Q (.dat (.bool false), q.2) := by
  show OV ((f S).bind fun p => (f' p.2).bind fun q => (p.1.get q.2).bind fun x => (q.1.get q.2).bind fun y => (g x y).bind fun z => (dBool z).bind fun k =>
    if k = true then (f'' q.2).bind fun s => (q.1.get s.2).bind fun y' => (s.1.get s.2).bind fun w => (g' y' w).map fun z' => (.dat z', s.2) else some (.dat (.bool false), q.2)) Q = _
  simp only [OV_bind, OV_ite, OV_map, OV_some]; rfl
@[simp] theorem w_un (g : PyData → Option PyData) (f : ES) : WP (sUn g f) S Q = WP f S fun p => OV (p.1.get p.2) fun x => OV (g x) fun z => Q (.dat z, p.2) := by
  show OV ((f S).bind fun p => (p.1.get p.2).bind fun x => (g x).map fun z => (.dat z, p.2)) Q = _
  simp only [OV_bind, OV_map]; rfl
@[simp] theorem w_tup (f : AS) : WP (sTup f) S Q = WP f S fun p => OV (takeAll p.2 p.1) fun q => q.1.length ≤ 100000 ∧ Q (.dat (.tuple q.1), q.2) := by
  show OV ((f S).bind fun p => (takeAll p.2 p.1).bind fun q => if q.1.length ≤ 100000 then some (.dat (.tuple q.1), q.2) else none) Q = _
  simp only [OV_bind]
  refine congrArg (OV (f S)) (funext fun p => congrArg (OV _) (funext fun q => ?_))
  by_cases h : q.1.length ≤ 100000 <;> simp [h]
@[simp] theorem w_lst (f : AS) : WP (sLst f) S QL = WP f S fun p => OV (takeAll p.2 p.1) fun q => q.1.length ≤ 100000 ∧ QL (q.1, q.2) := by
  show OV ((f S).bind fun p => (takeAll p.2 p.1).bind fun q => if q.1.length ≤ 100000 then some (q.1, q.2) else none) QL = _
  simp only [OV_bind]
  refine congrArg (OV (f S)) (funext fun p => congrArg (OV _) (funext fun q => ?_))
  by_cases h : q.1.length ≤ 100000 <;> simp [h]
@[simp] theorem w_cb (g : List PyData → Option PyData) (f : AS) : WP (sCB g f) S Q = WP f S fun p => OV (getAll p.2 p.1) fun xs => OV (g xs) fun z => Q (.dat z, p.2) := by
  show OV ((f S).bind fun p => (getAll p.2 p.1).bind fun xs => (g xs).map fun z => (.dat z, p.2)) Q = _
  simp only [OV_bind, OV_map]; rfl
@[simp] theorem w_cbl (g : List PyData → Option (List PyData)) (f : AS) : WP (sCBL g f) S QL = WP f S fun p => OV (getAll p.2 p.1) fun xs => OV (g xs) fun z => QL (z, p.2) := by
  show OV ((f S).bind fun p => (getAll p.2 p.1).bind fun xs => (g xs).map fun z => (z, p.2)) QL = _
  simp only [OV_bind, OV_map]; rfl
@[simp] theorem w_next : WP sNext S QO = QO (.nx S) := OV_some _
@[simp] theorem w_break : WP sBreak S QO = QO (.bk S) := OV_some _
@[simp] theorem w_cont : WP sCont S QO = QO (.ct S) := OV_some _
@[simp] theorem w_never : WP sNever S QO = False := OV_none
@[simp] theorem w_drop (f : ES) : WP (sDrop f) S QO = WP f S fun p => QO (.nx p.2) := OV_map _ _
@[simp] theorem w_ret (f : DS) : WP (sRet f) S QO = WP f S fun p => QO (.rt (.d p.1) p.2) := OV_map _ _
@[simp] theorem w_retL (f : LS) : WP (sRetL f) S QO = WP f S fun p => QO (.rt (.own false p.1) p.2) := OV_map _ _
@[simp] theorem w_retV (i : Nat) : WP (sRetV i) S QO = OV (retS S i (S[i]?)) QO := rfl
@[simp] theorem w_retN : WP sRetN S QO = QO (.rt (.d .none) S) := OV_some _
@[simp] theorem w_asg (f : DS) (g : GS) : WP (sAsg f g) S QO = WP f S fun p => WG g p.1 p.2 fun S1 => QO (.nx S1) := by
  show OV ((f S).bind fun p => (g p.1 p.2).map fun S1 => .nx S1) QO = _
  simp only [OV_bind, OV_map]; rfl
@[simp] theorem w_asgL (f : LS) (i : Nat) : WP (sAsgL f i) S QO = WP f S fun p => QO (.nx (p.2.set i (.own false p.1))) := OV_map _ _
/-- what follows a statement -/
def WO (g : SSem) (Q : Out → Prop) : Out → Prop
  | .nx S => WP g S Q
  | o => Q o
@[simp] theorem wo_nx (g : SSem) : WO g QO (.nx S) = WP g S QO := rfl
@[simp] theorem wo_bk (g : SSem) : WO g QO (.bk S) = QO (.bk S) := rfl
@[simp] theorem wo_ct (g : SSem) : WO g QO (.ct S) = QO (.ct S) := rfl
@[simp] theorem wo_rt (g : SSem) (r : SD) : WO g QO (.rt r S) = QO (.rt r S) := rfl
@[simp] theorem w_seq (f g : SSem) : WP (sSeq f g) S QO = WP f S (WO g QO) := by
  show OV ((f S).bind fun o => match o with
    | .nx S1 => g S1
    | o => some o) QO = OV (f S) (WO g QO)
  rw [OV_bind]
  refine congrArg (OV (f S)) (funext fun o => ?_)
  cases o <;> first | rfl | exact OV_some _
@[simp] theorem w_yes : WP sYes S QB = QB (true, S) := OV_some _
@[simp] theorem w_app (n k : Nat) (f g : AS) : WP (sApp n k f g) S QA = WP f S fun p => WP g p.2 fun q => (p.1.length = n ∧ q.1.length = k) ∧ QA (p.1 ++ q.1, q.2) := by
  show OV ((f S).bind fun p => (g p.2).bind fun q => if p.1.length = n ∧ q.1.length = k then some (p.1 ++ q.1, q.2) else none) QA = _
  simp only [OV_bind]
  refine congrArg (OV (f S)) (funext fun p => congrArg (OV _) (funext fun q => ?_))
  by_cases h : p.1.length = n ∧ q.1.length = k <;> simp [h]
@[simp] theorem w_callR (n : Nat) (m : Fn) (f : AS) : WP (sCallR n m f) S QV = WP f S fun p => OV (opSDs p.2 p.1) fun Dl => (p.1.length = n ∧ (ownIx p.2 p.1).Nodup) ∧ OV (m Dl) fun q => QV (q.1, wbGo p.1 q.2 0 p.2) := by
  show OV ((f S).bind fun p => (opSDs p.2 p.1).bind fun Dl => if p.1.length = n ∧ (ownIx p.2 p.1).Nodup then (m Dl).map fun q => (q.1, wbGo p.1 q.2 0 p.2) else none) QV = _
  simp only [OV_bind]
  refine congrArg (OV (f S)) (funext fun p => congrArg (OV _) (funext fun Dl => ?_))
  by_cases h : p.1.length = n ∧ (ownIx p.2 p.1).Nodup
  · rw [if_pos h, OV_map]; simp [h]
  · rw [if_neg h]; simp [h]
@[simp] theorem w_perm (pm : List Nat) (f : AS) : WP (sPerm pm f) S QA = WP f S fun p => QA (perm pm p.1, p.2) := OV_map _ _
@[simp] theorem w_call (n : Nat) (m : Fn) (f : AS) : WP (sCall n m f) S Q = WP (sCallR n m f) S fun p => OV (resD p.1) fun x => Q (.dat x, p.2) := by
  show OV ((sCallR n m f S).bind fun p => (resD p.1).map fun x => (.dat x, p.2)) Q = _
  simp only [OV_bind, OV_map]; rfl
@[simp] theorem w_callL (n : Nat) (m : Fn) (f : AS) : WP (sCallL n m f) S QL = WP (sCallR n m f) S fun p => OV (resL p.1) fun x => QL (x, p.2) := by
  show OV ((sCallR n m f S).bind fun p => (resL p.1).map fun x => (x, p.2)) QL = _
  simp only [OV_bind, OV_map]; rfl
@[simp] theorem w_callF (m : Fn) (f : LS) : WP (sCallF m f) S Q = WP f S fun p => OV (m [.own true p.1]) fun q => OV (onlyD q.1) fun x => Q (.dat x, p.2) := by
  show OV ((f S).bind fun p => (m [.own true p.1]).bind fun q => (onlyD q.1).map fun x => (.dat x, p.2)) Q = _
  simp only [OV_bind, OV_map]; rfl
@[simp] theorem onlyD_d (x : PyData) : onlyD (.d x) = some x := rfl
@[simp] theorem w_isi (T : Tg) (f : ES) : WP (sIsi T f) S Q = WP f S fun p => OV (p.1.get p.2) fun x => OV (isTy T x) fun b => Q (.dat (.bool b), p.2) := by
  show OV ((f S).bind fun p => (p.1.get p.2).bind fun x => (isTy T x).map fun b => (.dat (.bool b), p.2)) Q = _
  simp only [OV_bind, OV_map]; rfl
@[simp] theorem w_isi2 (T U : Tg) (f : ES) : WP (sIsi2 T U f) S Q = WP f S fun p => OV (p.1.get p.2) fun x => OV (isTy T x) fun b => OV (isTy U x) fun c => Q (.dat (.bool (b || c)), p.2) := by
  show OV ((f S).bind fun p => (p.1.get p.2).bind fun x => (isTy T x).bind fun b => (isTy U x).map fun c => (.dat (.bool (b || c)), p.2)) Q = _
  simp only [OV_bind, OV_map]; rfl
@[simp] theorem w_seqI (f : DS) : WP (sSeqI f) S QL = WP f S fun p => OV (dItems p.1) fun xs => QL (xs, p.2) := by
  show OV ((f S).bind fun p => (dItems p.1).map fun xs => (xs, p.2)) QL = _
  simp only [OV_bind, OV_map]; rfl
@[simp] theorem w_takeA (f : AS) {Q : List PyData × List SD → Prop} : WP (sTakeA f) S Q = WP f S fun p => OV (takeAll p.2 p.1) Q := OV_bind _ _
@[simp] theorem w_argI (g : List PyData → Option (List PyData)) (f : AS) : WP (sArgI g f) S QL = WP (sTakeA f) S fun p => OV (g p.1) fun xs => QL (xs, p.2) := by
  show OV ((sTakeA f S).bind fun p => (g p.1).map fun xs => (xs, p.2)) QL = _
  simp only [OV_bind, OV_map]; rfl
@[simp] theorem w_noPart : WP sNoPart S QP = QP (none, S) := OV_some _
@[simp] theorem w_part (f : ES) : WP (sPart f) S QP = WP f S fun p => OV (p.1.get p.2) fun x => OV (dIntO x) fun i => QP (some i, p.2) := by
  show OV ((f S).bind fun p => (p.1.get p.2).bind fun x => (dIntO x).map fun i => (some i, p.2)) QP = _
  simp only [OV_bind, OV_map]; rfl
@[simp] theorem w_slice (f : ES) (fl fh : OS) : WP (sSlice f fl fh) S Q = WP f S fun p => WP fl p.2 fun q => WP fh q.2 fun r => OV (p.1.get r.2) fun x => OV (dCut x q.1 r.1) fun z => Q (.dat z, r.2) := by
  show OV ((f S).bind fun p => (fl p.2).bind fun q => (fh q.2).bind fun r => (p.1.get r.2).bind fun x => (dCut x q.1 r.1).map fun z => (.dat z, r.2)) Q = _
  simp only [OV_bind, OV_map]; rfl
@[simp] theorem w_sliceL (f : ES) (fl fh : OS) : WP (sSliceL f fl fh) S QL = WP f S fun p => WP fl p.2 fun q => WP fh q.2 fun r => OV (p.1.get r.2) fun x => OV (dCutL x q.1 r.1) fun z => QL (z, r.2) := by
  show OV ((f S).bind fun p => (fl p.2).bind fun q => (fh q.2).bind fun r => (p.1.get r.2).bind fun x => (dCutL x q.1 r.1).map fun z => (z, r.2)) QL = _
  simp only [OV_bind, OV_map]; rfl
@[simp] theorem w_vD (f : DS) : WP (vD f) S QV = WP f S fun p => QV (.d p.1, p.2) := OV_map _ _
@[simp] theorem w_vL (f : LS) : WP (vL f) S QV = WP f S fun p => QV (.own false p.1, p.2) := OV_map _ _
@[simp] theorem w_vLCt (f : LS) : WP (vLC true f) S QV = WP (vD (sTake (sKeep f))) S QV := rfl
@[simp] theorem w_vLCf (f : LS) : WP (vLC false f) S QV = WP (vL f) S QV := rfl
@[simp] theorem w_setV (f : VS) (i : Nat) : WP (sSetV f i) S QO = WP f S fun p => QO (.nx (p.2.set i p.1)) := OV_map _ _
@[simp] theorem w_retVS (f : VS) : WP (sRetVS f) S QO = WP f S fun p => QO (.rt p.1 p.2) := OV_map _ _
@[simp] theorem w_par (i j : Nat) (f g : VS) : WP (sPar i j f g) S QO = WP f S fun p => WP (asideV p.1 g) p.2 fun q => QO (.nx ((q.2.set i p.1).set j q.1)) := by
  show OV ((f S).bind fun p => (asideV p.1 g p.2).map fun q => .nx ((q.2.set i p.1).set j q.1)) QO = _
  simp only [OV_bind, OV_map]; rfl
/-- a value read beside another one -/
def WAs (s : SD) (g : VS) (S : List SD) (Q : SD × List SD → Prop) : Prop := OV (asideV s g S) Q
@[simp] theorem w_asideD (x : PyData) (g : VS) : WP (asideV (.d x) g) S QV = WP g S QV := rfl
@[simp] theorem w_asideO (b : Bool) (xs : List PyData) (g : VS) : WP (asideV (.own b xs) g) S QV = WP g (borGo [] 0 S) fun p => QV (p.1, unbGo [] 0 S p.2) := OV_map _ _
@[simp] theorem w_index (fo fa : ES) : WP (sIndex fo fa) S Q = WP fo S fun p => OV (p.1.get p.2) fun l => isList l = true ∧ WP fa p.2 fun q => OV (p.1.get q.2) fun x => OV (q.1.get q.2) fun y => OV (dIndex x y) fun z => Q (.dat z, q.2) := by
  show OV ((fo S).bind fun p => (p.1.get p.2).bind fun l => if isList l = true then (fa p.2).bind fun q => (p.1.get q.2).bind fun x => (q.1.get q.2).bind fun y => (dIndex x y).map fun z => (.dat z, q.2) else none) Q = _
  simp only [OV_bind]
  refine congrArg (OV (fo S)) (funext fun p => congrArg (OV _) (funext fun l => ?_))
  by_cases h : isList l = true
  · rw [if_pos h]; simp only [OV_bind, OV_map, h, true_and]; rfl
  · rw [if_neg h]; simp [h]
@[simp] theorem w_rg1 (f : ES) : WP (sRg1 f) S QR = WP f S fun p => OV (p.1.get p.2) fun x => OV (dIntO x) fun n => QR ((0, n), p.2) := by
  show OV ((f S).bind fun p => (p.1.get p.2).bind fun x => (dIntO x).map fun n => ((0, n), p.2)) QR = _
  simp only [OV_bind, OV_map]; rfl
@[simp] theorem w_rg2 (f g : ES) : WP (sRg2 f g) S QR = WP f S fun p => WP g p.2 fun q => OV (p.1.get q.2) fun x => OV (q.1.get q.2) fun y => OV (dIntO x) fun n => OV (dIntO y) fun m => QR ((n, m), q.2) := by
  show OV ((f S).bind fun p => (g p.2).bind fun q => (p.1.get q.2).bind fun x => (q.1.get q.2).bind fun y => (dIntO x).bind fun n => (dIntO y).map fun m => ((n, m), q.2)) QR = _
  simp only [OV_bind, OV_map]; rfl
@[simp] theorem w_lstRg (f : RS) : WP (sLstRg f) S QL = WP f S fun p => rgB p.1.1 p.1.2 = true ∧ QL (rngD p.1.1 (p.1.2 - p.1.1).toNat, p.2) := by
  show OV ((f S).bind fun p => if rgB p.1.1 p.1.2 = true then some (rngD p.1.1 (p.1.2 - p.1.1).toNat, p.2) else none) QL = _
  simp only [OV_bind]
  refine congrArg (OV (f S)) (funext fun p => ?_)
  by_cases h : rgB p.1.1 p.1.2 = true <;> simp [h]
@[simp] theorem w_tupRg (f : RS) : WP (sTupRg f) S Q = WP f S fun p => rgB p.1.1 p.1.2 = true ∧ Q (.dat (.tuple (rngD p.1.1 (p.1.2 - p.1.1).toNat)), p.2) := by
  show OV ((f S).bind fun p => if rgB p.1.1 p.1.2 = true then some (.dat (.tuple (rngD p.1.1 (p.1.2 - p.1.1).toNat)), p.2) else none) Q = _
  simp only [OV_bind]
  refine congrArg (OV (f S)) (funext fun p => ?_)
  by_cases h : rgB p.1.1 p.1.2 = true <;> simp [h]
@[simp] theorem w_dict0 : WP sDict0 S Q = Q (.dat (.dict []), S) := OV_some _
@[simp] theorem w_par3 (i j l : Nat) (f : AS) : WP (sPar3 i j l f) S QO = WP (sTakeA f) S fun p => OV (set3 i j l p.2 p.1) QO := OV_bind _ _
@[simp] theorem set3_3 (i j l : Nat) (x y z : PyData) : set3 i j l S [x, y, z] = some (.nx (((S.set i (.d x)).set j (.d y)).set l (.d z))) := rfl
/-! a method -/
def WM (i : Nat) (g : List PyData → List PyData → Option (PyData × List PyData)) (p : List PyData × List SD) (Q : Op × List SD → Prop) : Option SD → Prop
  | some (.own b xs) => OV (g xs p.1) fun z => Q (.dat z.1, p.2.set i (.own b z.2))
  | _ => False
@[simp] theorem wm_o (i : Nat) (g : List PyData → List PyData → Option (PyData × List PyData)) (p : List PyData × List SD) (b : Bool) (xs : List PyData) : WM i g p Q (some (.own b xs)) = OV (g xs p.1) fun z => Q (.dat z.1, p.2.set i (.own b z.2)) := rfl
@[simp] theorem w_meth (i : Nat) (g : List PyData → List PyData → Option (PyData × List PyData)) (f : AS) : WP (sMeth i g f) S Q = (isOwn (S[i]?) = true ∧ WP (sTakeA f) S fun p => WM i g p Q (p.2[i]?)) := by
  unfold WP sMeth
  cases q : S[i]? with
  | none => simp [isOwn]
  | some s =>
    cases s with
    | own b xs =>
      simp only [isOwn, OV_bind, true_and]
      refine congrArg (OV _) (funext fun p => ?_)
      unfold WM
      cases z : p.2[i]? with
      | none => simp
      | some t => cases t <;> simp
    | _ => simp [isOwn]
/-! targets -/
@[simp] theorem wg_name (i : Nat) (x : PyData) : WG (gsName i) x S QG = QG (S.set i (.d x)) := OV_some _
@[simp] theorem wg_tup (n : Nat) (g : List PyData → List SD → Option (List SD)) (x : PyData) : WG (gsTup n g) x S QG = OV (dTup x) fun xs => xs.length = n ∧ WGs g xs S QG := by
  show OV ((dTup x).bind fun xs => if xs.length = n then g xs S else none) QG = _
  simp only [OV_bind]
  refine congrArg (OV _) (funext fun xs => ?_)
  by_cases h : xs.length = n
  · rw [if_pos h]; simp only [h, true_and]; rfl
  · rw [if_neg h]; simp [h]
@[simp] theorem wg_sub (i : Nat) (f : ES) (x : PyData) : WG (gsSub i f) x S QG = (isOwnS (S[i]?) = true ∧ WP f S fun p => OV (p.1.get p.2) fun y => OV (dIntO y) fun k => OV (setAt i x k p.2 (p.2[i]?)) QG) := by
  show OV (if isOwnS (S[i]?) = true then (f S).bind fun p => (p.1.get p.2).bind fun y => (dIntO y).bind fun k => setAt i x k p.2 (p.2[i]?) else none) QG = _
  by_cases h : isOwnS (S[i]?) = true
  · rw [if_pos h]; simp only [OV_bind, h, true_and]; rfl
  · rw [if_neg h]; simp [h]
@[simp] theorem wg_nil : WGs gsNil [] S QG = QG S := OV_some _
@[simp] theorem wg_cons (g : GS) (gs : List PyData → List SD → Option (List SD)) (x : PyData) (xs : List PyData) : WGs (gsCons g gs) (x :: xs) S QG = WG g x S fun S1 => WGs gs xs S1 QG := OV_bind _ _
end

/-! ### comprehensions -/
def WLc (vs : List Nat) (gs : GS) (fc : BS) (fd : DS) (xs : List PyData) (S : List SD) (Q : List PyData × List SD → Prop) : Prop := OV (lcGo vs gs fc fd xs S) Q
def WLS (vs : List Nat) (gs : GS) (fc : BS) (fd : DS) (x : PyData) (S : List SD) (Q : Option PyData × List SD → Prop) : Prop := OV (lcStep vs gs fc fd x S) Q
section
variable {vs : List Nat} {gs : GS} {fc : BS} {fd : DS} {xs xs' : List PyData} {x x' : PyData} {S S' : List SD} {Q : List PyData × List SD → Prop} {QS : Option PyData × List SD → Prop}
theorem WLc_congr (hx : xs = xs') (h : S = S') : WLc vs gs fc fd xs S Q = WLc vs gs fc fd xs' S' Q := by rw [h, hx]
theorem WLS_congr (hx : x = x') (h : S = S') : WLS vs gs fc fd x S QS = WLS vs gs fc fd x' S' QS := by rw [h, hx]
@[simp] theorem w_lc (fi : LS) : WP (sLC vs fi gs fc fd) S Q = WP fi S fun p => p.1.length < 100000 ∧ WLc vs gs fc fd p.1 p.2 Q := by
  show OV ((fi S).bind fun p => if p.1.length < 100000 then lcGo vs gs fc fd p.1 p.2 else none) Q = _
  simp only [OV_bind]
  refine congrArg (OV _) (funext fun p => ?_)
  by_cases h : p.1.length < 100000
  · rw [if_pos h]; simp only [h, true_and]; rfl
  · rw [if_neg h]; simp [h]
@[simp] theorem w_ls : WLS vs gs fc fd x S QS = WG gs x (borGo vs 0 S) fun S1 => WP fc S1 fun p => if p.1 = true then WP fd p.2 fun q => QS (some q.1, unbGo vs 0 S q.2) else QS (none, unbGo vs 0 S p.2) := by
  show OV ((gs x (borGo vs 0 S)).bind fun S1 => (fc S1).bind fun p => if p.1 = true then (fd p.2).map fun q => (some q.1, unbGo vs 0 S q.2) else some (none, unbGo vs 0 S p.2)) QS = _
  simp only [OV_bind, OV_ite, OV_map, OV_some]; rfl
@[simp] theorem w_lcNil : WLc vs gs fc fd [] S Q = Q ([], S) := OV_some _
@[simp] theorem w_lcCons : WLc vs gs fc fd (x :: xs) S Q = WLS vs gs fc fd x S fun p => WLc vs gs fc fd xs p.2 fun z => Q (p.1.toList ++ z.1, z.2) := by
  unfold WLc
  rw [lcGo_cons]
  simp only [OV_bind, OV_map]; rfl
/-- the slots stay: an item of F x each -/
theorem WLc.map (F : PyData → PyData) (h : ∀ x ∈ xs, WLS vs gs fc fd x S fun q => q = (some (F x), S)) (k : Q (xs.map F, S)) : WLc vs gs fc fd xs S Q :=
  ⟨_, lc_map F xs fun x hx => (h x hx).eq, k⟩
theorem WLc.fmap (F : PyData → Option PyData) (h : ∀ x ∈ xs, WLS vs gs fc fd x S fun q => q = (F x, S)) (k : Q (xs.filterMap F, S)) : WLc vs gs fc fd xs S Q :=
  ⟨_, lc_stable F xs fun x hx => (h x hx).eq, k⟩
/-- .. for a list that is itself a map -/
theorem WLc.mapOf {α : Type} {l : List α} (e : α → PyData) (F : α → PyData) (h : ∀ a ∈ l, WLS vs gs fc fd (e a) S fun q => q = (some (F a), S)) (k : Q (l.map F, S)) : WLc vs gs fc fd (l.map e) S Q := by
  refine ⟨_, ?_, k⟩
  clear k
  induction l with
  | nil => rfl
  | cons a l ih =>
    rw [List.map_cons, lcGo_cons, (h a (by simp)).eq]
    simp only [Option.bind_some]
    rw [ih fun b hb => h b (List.mem_cons_of_mem _ hb)]
    rfl
theorem WLc.fmapOf {α : Type} {l : List α} (e : α → PyData) (F : α → Option PyData) (h : ∀ a ∈ l, WLS vs gs fc fd (e a) S fun q => q = (F a, S)) (k : Q (l.filterMap F, S)) : WLc vs gs fc fd (l.map e) S Q := by
  refine ⟨_, ?_, k⟩
  clear k
  induction l with
  | nil => rfl
  | cons a l ih =>
    rw [List.map_cons, lcGo_cons, (h a (by simp)).eq]
    simp only [Option.bind_some]
    rw [ih fun b hb => h b (List.mem_cons_of_mem _ hb)]
    cases z : F a <;> simp [z]
/-- an invariant of what is gone through and what has come out -/
theorem WLc.inv (I : List PyData → List PyData → List SD → Prop) (h0 : I [] [] S) (h : ∀ pre x post ys S, xs = pre ++ x :: post → I pre ys S → WLS vs gs fc fd x S fun q => I (pre ++ [x]) (ys ++ q.1.toList) q.2) (k : ∀ ys S, I xs ys S → Q (ys, S)) : WLc vs gs fc fd xs S Q := by
  have key : ∀ (post pre ys : List PyData) (S : List SD), xs = pre ++ post → I pre ys S → ∃ zs S', lcGo vs gs fc fd post S = some (zs, S') ∧ I xs (ys ++ zs) S' := by
    intro post
    induction post with
    | nil => intro pre ys S e i; exact ⟨[], S, rfl, by rw [e]; simpa using i⟩
    | cons x post ih =>
      intro pre ys S e i
      obtain ⟨⟨o, S1⟩, h1, h2⟩ := h pre x post ys S e i
      obtain ⟨zs, S2, h3, h4⟩ := ih (pre ++ [x]) (ys ++ o.toList) S1 (by rw [e]; simp) h2
      refine ⟨o.toList ++ zs, S2, ?_, by rw [← List.append_assoc]; exact h4⟩
      rw [lcGo_cons, h1]
      simp only [Option.bind_some, h3, Option.map_some]
  obtain ⟨zs, S', h1, h2⟩ := key xs [] [] S rfl h0
  exact ⟨_, h1, k _ _ (by simpa using h2)⟩
end

/-! ### loops -/
def WFor (gs : GS) (fb : SSem) (xs : List PyData) (S : List SD) (Q : Out → Prop) : Prop := OV (forGo gs fb xs S) Q
/-- behind a turn: G what is next in the loop -/
def WT (G : List SD → Prop) (Q : Out → Prop) : Out → Prop
  | .nx S => G S
  | .ct S => G S
  | .bk S => Q (.nx S)
  | .rt r S => Q (.rt r S)
section
variable {gs : GS} {fb : SSem} {xs xs' : List PyData} {x x' : PyData} {S S' : List SD} {Q : Out → Prop} {G : List SD → Prop}
@[simp] theorem wt_nx : WT G Q (.nx S) = G S := rfl
@[simp] theorem wt_ct : WT G Q (.ct S) = G S := rfl
@[simp] theorem wt_bk : WT G Q (.bk S) = Q (.nx S) := rfl
@[simp] theorem wt_rt (r : SD) : WT G Q (.rt r S) = Q (.rt r S) := rfl
theorem WFor_congr (hx : xs = xs') (h : S = S') : WFor gs fb xs S Q = WFor gs fb xs' S' Q := by rw [h, hx]
@[simp] theorem w_for (fi : LS) : WP (sFor fi gs fb) S Q = WP fi S fun p => WFor gs fb p.1 p.2 Q := OV_bind _ _
@[simp] theorem w_forNil : WFor gs fb [] S Q = Q (.nx S) := OV_some _
@[simp] theorem w_forCons : WFor gs fb (x :: xs) S Q = WG gs x S fun S1 => WP fb S1 (WT (fun S2 => WFor gs fb xs S2 Q) Q) := by
  unfold WFor
  rw [forGo_cons, OV_bind]
  refine congrArg (OV _) (funext fun S1 => ?_)
  rw [OV_bind]
  refine congrArg (OV _) (funext fun o => ?_)
  cases o <;> first | rfl | exact OV_some _
theorem WFor.inv (I : List PyData → List SD → Prop) (h0 : I [] S) (h : ∀ pre x post S, xs = pre ++ x :: post → I pre S → WG gs x S fun S1 => WP fb S1 (WT (I (pre ++ [x])) Q)) (k : ∀ S, I xs S → Q (.nx S)) : WFor gs fb xs S Q := by
  have key : ∀ (post pre : List PyData) (S : List SD), xs = pre ++ post → I pre S → WFor gs fb post S Q := by
    intro post
    induction post with
    | nil => intro pre S e i; rw [w_forNil]; exact k S (by rw [e]; simpa using i)
    | cons x post ih =>
      intro pre S e i
      rw [w_forCons]
      refine OV.use (h pre x post S e i) fun S1 h1 => OV.use h1 fun o h2 => ?_
      cases o with
      | nx S2 => exact ih (pre ++ [x]) S2 (by rw [e]; simp) h2
      | ct S2 => exact ih (pre ++ [x]) S2 (by rw [e]; simp) h2
      | bk S2 => exact h2
      | rt r S2 => exact h2
  exact key xs [] S rfl h0
/-- .. over a list that is a map -/
theorem WFor.invOf {α : Type} {l : List α} (e : α → PyData) (I : List α → List SD → Prop) (h0 : I [] S) (h : ∀ pre a post S, l = pre ++ a :: post → I pre S → WG gs (e a) S fun S1 => WP fb S1 (WT (I (pre ++ [a])) Q)) (k : ∀ S, I l S → Q (.nx S)) : WFor gs fb (l.map e) S Q := by
  have key : ∀ (post pre : List α) (S : List SD), l = pre ++ post → I pre S → WFor gs fb (post.map e) S Q := by
    intro post
    induction post with
    | nil => intro pre S q i; rw [List.map_nil, w_forNil]; exact k S (by rw [q]; simpa using i)
    | cons x post ih =>
      intro pre S q i
      rw [List.map_cons, w_forCons]
      refine OV.use (h pre x post S q i) fun S1 h1 => OV.use h1 fun o h2 => ?_
      cases o with
      | nx S2 => exact ih (pre ++ [x]) S2 (by rw [q]; simp) h2
      | ct S2 => exact ih (pre ++ [x]) S2 (by rw [q]; simp) h2
      | bk S2 => exact h2
      | rt r S2 => exact h2
  exact key l [] S rfl h0
end
def WWh (ft : BS) (fb : SSem) (n : Nat) (S : List SD) (Q : Out → Prop) : Prop := OV (whileGo ft fb n S) Q
section
variable {ft : BS} {fb : SSem} {n : Nat} {S S' : List SD} {Q : Out → Prop}
theorem WWh_congr (h : S = S') : WWh ft fb n S Q = WWh ft fb n S' Q := by rw [h]
@[simp] theorem w_while : WP (sWhile n ft fb) S Q = WWh ft fb n S Q := rfl
/-- I k: at most k turns are left -/
theorem WWh.inv (I : Nat → List SD → Prop) (k0 : Nat) (h0 : I k0 S) (hk : k0 < n) (h : ∀ k S, I k S → WP ft S fun p => if p.1 = true then WP fb p.2 (WT (fun S2 => ∃ j, j < k ∧ I j S2) Q) else Q (.nx p.2)) : WWh ft fb n S Q := by
  have key : ∀ (n k : Nat) (S : List SD), k < n → I k S → WWh ft fb n S Q := by
    intro n
    induction n with
    | zero => intro k S hk; omega
    | succ n ih =>
      intro k S hk i
      unfold WWh
      show OV ((ft S).bind fun p => if p.1 = true then (fb p.2).bind fun o => match o with
        | .nx S2 => whileGo ft fb n S2
        | .ct S2 => whileGo ft fb n S2
        | .bk S2 => some (.nx S2)
        | .rt r S2 => some (.rt r S2) else some (.nx p.2)) Q
      rw [OV_bind]
      refine OV.use (h k S i) fun p hp => ?_
      rw [OV_ite]
      split
      · rename_i hc
        rw [if_pos hc] at hp
        rw [OV_bind]
        refine OV.use hp fun o h2 => ?_
        cases o with
        | nx S2 => obtain ⟨j, hj, i2⟩ := h2; exact ih j S2 (by omega) i2
        | ct S2 => obtain ⟨j, hj, i2⟩ := h2; exact ih j S2 (by omega) i2
        | bk S2 => rw [OV_some]; exact h2
        | rt r S2 => rw [OV_some]; exact h2
      · rename_i hc
        rw [if_neg hc] at hp
        rw [OV_some]; exact hp
  exact key n k0 S hk h0
end

/-! ### defs -/
theorem OV_defn (N : Nat) (f : SSem) (Dl : List SD) {Q : SD × List SD → Prop} : OV (defn N f Dl) Q = WP f (Dl ++ List.replicate (N - Dl.length) .un) fun o => OV (defOut Dl o) Q := OV_bind _ _
end DL0

set_option Elab.async false
set_option linter.all false
set_option maxRecDepth 100000
set_option maxHeartbeats 4000000
/-! WL: the mirrors stepped through from the front (for simp): what follows stays closed until it is reached. -/
namespace DL
open PySem L2

/-- keeps simp out of what follows: an argument on which another one's type leans stays as it is -/
inductive Kt {α : Type} (Q : α → Prop) : Type
  | mk
/-- r ends, with Q -/
def OV {α : Type} (r : Option α) (Q : α → Prop) (d : Kt Q := .mk) : Prop := DL0.OV r Q
section
variable {α β : Type} {r r' : Option α} {Q Q' : α → Prop}
@[simp] theorem OV_some (a : α) : OV (some a) Q = Q a := by apply DL0.OV_some
@[simp] theorem OV_none : OV (none : Option α) Q = False := by apply DL0.OV_none
@[simp] theorem OV_bind (f : β → Option α) (s : Option β) : OV (s.bind f) Q = OV s fun a => OV (f a) Q := by apply DL0.OV_bind
@[simp] theorem OV_map (f : β → α) (s : Option β) : OV (s.map f) Q = OV s fun a => Q (f a) := by apply DL0.OV_map
@[simp] theorem OV_ite (c : Prop) [Decidable c] (a b : Option α) : OV (if c then a else b) Q = if c then OV a Q else OV b Q := by apply DL0.OV_ite
theorem OV.use {P : α → Prop} (h : OV r P) (k : ∀ a, P a → Q a) : OV r Q := by obtain ⟨a, h1, h2⟩ := h; exact ⟨a, h1, k a h2⟩
theorem OV.eq {c : α} (h : OV r fun q => q = c) : r = some c := by obtain ⟨a, h1, h2⟩ := h; rw [h1, h2]
theorem OV.of {c : α} (h : r = some c) (q : Q c) : OV r Q := ⟨c, h, q⟩
end

/-- f, read at the slots S, ends, with Q -/
def WP {β : Type} (f : List SD → Option β) (S : List SD) (Q : β → Prop) (d : Kt Q := .mk) : Prop := DL0.WP f S Q
theorem WP.use {β : Type} {f : List SD → Option β} {S : List SD} {P Q : β → Prop} (h : WP f S P) (k : ∀ a, P a → Q a) : WP f S Q := OV.use h k
/-- a target -/
def WG (g : GS) (x : PyData) (S : List SD) (Q : List SD → Prop) (d : Kt Q := .mk) : Prop := DL0.WG g x S Q
def WGs (g : List PyData → List SD → Option (List SD)) (x : List PyData) (S : List SD) (Q : List SD → Prop) (d : Kt Q := .mk) : Prop := DL0.WGs g x S Q
section
variable {S : List SD} {Q : Op × List SD → Prop} {QB : Bool × List SD → Prop} {QA : List Op × List SD → Prop} {QL : List PyData × List SD → Prop} {QD : PyData × List SD → Prop} {QO : Out → Prop} {QV : SD × List SD → Prop} {QR : (Int × Int) × List SD → Prop} {QP : Option Int × List SD → Prop} {QG : List SD → Prop}
@[simp] theorem w_var (i : Nat) : WP (sVar i) S Q = (sdTold (S[i]?) = true ∧ Q (.slot i, S)) := by apply DL0.w_var
@[simp] theorem w_c (x : PyData) : WP (sC x) S Q = Q (.dat x, S) := by apply DL0.w_c
@[simp] theorem w_take (f : ES) : WP (sTake f) S QD = WP f S fun p => OV (takeO p.2 p.1) QD := by apply DL0.w_take
@[simp] theorem w_dat (f : DS) : WP (sDat f) S Q = WP f S fun p => Q (.dat p.1, p.2) := by apply DL0.w_dat
@[simp] theorem w_keep (f : LS) : WP (sKeep f) S Q = WP f S fun p => Q (.dat (.list p.1), p.2) := by apply DL0.w_keep
@[simp] theorem w_nil : WP sNil S QA = QA ([], S) := by apply DL0.w_nil
@[simp] theorem w_cons (f : ES) (g : AS) : WP (sCons f g) S QA = WP f S fun p => WP g p.2 fun q => QA (p.1 :: q.1, q.2) := by apply DL0.w_cons
@[simp] theorem w_bin (g : PyData → PyData → Option PyData) (f f' : ES) : WP (sBin g f f') S Q = WP f S fun p => WP f' p.2 fun q => OV (p.1.get q.2) fun x => OV (q.1.get q.2) fun y => OV (g x y) fun z => Q (.dat z, q.2) := by apply DL0.w_bin
@[simp] theorem w_binL (g : PyData → PyData → Option (List PyData)) (f f' : ES) : WP (sBinL g f f') S QL = WP f S fun p => WP f' p.2 fun q => OV (p.1.get q.2) fun x => OV (q.1.get q.2) fun y => OV (g x y) fun z => QL (z, q.2) := by apply DL0.w_binL
@[simp] theorem w_test (f : ES) : WP (sTest f) S QB = WP f S fun p => OV (p.1.get p.2) fun x => OV (dBool x) fun b => QB (b, p.2) := by apply DL0.w_test
@[simp] theorem w_and (f g : BS) : WP (sAnd f g) S QB = WP f S fun p => if p.1 = true then WP g p.2 QB else QB (false, p.2) := by apply DL0.w_and
@[simp] theorem w_or (f g : BS) : WP (sOr f g) S QB = WP f S fun p => if p.1 = true then QB (true, p.2) else WP g p.2 QB := by apply DL0.w_or
@[simp] theorem w_not (f : BS) : WP (sNot f) S QB = WP f S fun p => QB (!p.1, p.2) := by apply DL0.w_not
@[simp] theorem w_andV (f g : ES) : WP (sAndV f g) S Q = WP f S fun p => OV (p.1.get p.2) fun x => OV (dBool x) fun c => if c = true then WP g p.2 Q else Q (.dat (.bool false), p.2) := by apply DL0.w_andV
@[simp] theorem w_orV (f g : ES) : WP (sOrV f g) S Q = WP f S fun p => OV (p.1.get p.2) fun x => OV (dBool x) fun c => if c = true then Q (.dat (.bool true), p.2) else WP g p.2 Q := by apply DL0.w_orV
@[simp] theorem w_notV (f : ES) : WP (sNotV f) S Q = WP f S fun p => OV (p.1.get p.2) fun x => OV (dBool x) fun c => Q (.dat (.bool (!c)), p.2) := by apply DL0.w_notV
@[simp] theorem w_if {α : Type} (t : BS) (f g : List SD → Option α) {Q : α → Prop} : WP (sIf t f g) S Q = WP t S fun p => if p.1 = true then WP f p.2 Q else WP g p.2 Q := by apply DL0.w_if
@[simp] theorem w_chain (g g' : PyData → PyData → Option PyData) (f f' f'' : ES) : WP (sChain g g' f f' f'') S Q = WP f S fun p => WP f' p.2 fun q => OV (p.1.get q.2) fun x => OV (q.1.get q.2) fun y => OV (g x y) fun z => OV (dBool z) fun k =>
    if k = true then WP f'' q.2 fun s => OV (q.1.get s.2) fun y' => OV (s.1.get s.2) fun w => OV (g' y' w) fun z' => Q (.dat z', s.2) else Q (.dat (.bool false), q.2) := by apply DL0.w_chain
@[simp] theorem w_un (g : PyData → Option PyData) (f : ES) : WP (sUn g f) S Q = WP f S fun p => OV (p.1.get p.2) fun x => OV (g x) fun z => Q (.dat z, p.2) := by apply DL0.w_un
@[simp] theorem w_tup (f : AS) : WP (sTup f) S Q = WP f S fun p => OV (takeAll p.2 p.1) fun q => q.1.length ≤ 100000 ∧ Q (.dat (.tuple q.1), q.2) := by apply DL0.w_tup
@[simp] theorem w_lst (f : AS) : WP (sLst f) S QL = WP f S fun p => OV (takeAll p.2 p.1) fun q => q.1.length ≤ 100000 ∧ QL (q.1, q.2) := by apply DL0.w_lst
@[simp] theorem w_cb (g : List PyData → Option PyData) (f : AS) : WP (sCB g f) S Q = WP f S fun p => OV (getAll p.2 p.1) fun xs => OV (g xs) fun z => Q (.dat z, p.2) := by apply DL0.w_cb
@[simp] theorem w_cbl (g : List PyData → Option (List PyData)) (f : AS) : WP (sCBL g f) S QL = WP f S fun p => OV (getAll p.2 p.1) fun xs => OV (g xs) fun z => QL (z, p.2) := by apply DL0.w_cbl
@[simp] theorem w_next : WP sNext S QO = QO (.nx S) := by apply DL0.w_next
@[simp] theorem w_break : WP sBreak S QO = QO (.bk S) := by apply DL0.w_break
@[simp] theorem w_cont : WP sCont S QO = QO (.ct S) := by apply DL0.w_cont
@[simp] theorem w_never : WP sNever S QO = False := by apply DL0.w_never
@[simp] theorem w_drop (f : ES) : WP (sDrop f) S QO = WP f S fun p => QO (.nx p.2) := by apply DL0.w_drop
@[simp] theorem w_ret (f : DS) : WP (sRet f) S QO = WP f S fun p => QO (.rt (.d p.1) p.2) := by apply DL0.w_ret
@[simp] theorem w_retL (f : LS) : WP (sRetL f) S QO = WP f S fun p => QO (.rt (.own false p.1) p.2) := by apply DL0.w_retL
@[simp] theorem w_retV (i : Nat) : WP (sRetV i) S QO = OV (retS S i (S[i]?)) QO := by apply DL0.w_retV
@[simp] theorem w_retN : WP sRetN S QO = QO (.rt (.d .none) S) := by apply DL0.w_retN
@[simp] theorem w_asg (f : DS) (g : GS) : WP (sAsg f g) S QO = WP f S fun p => WG g p.1 p.2 fun S1 => QO (.nx S1) := by apply DL0.w_asg
@[simp] theorem w_asgL (f : LS) (i : Nat) : WP (sAsgL f i) S QO = WP f S fun p => QO (.nx (p.2.set i (.own false p.1))) := by apply DL0.w_asgL
/-- what follows a statement -/
def WO (g : SSem) (Q : Out → Prop) : Out → Prop := DL0.WO g Q
@[simp] theorem wo_nx (g : SSem) : WO g QO (.nx S) = WP g S QO := by apply DL0.wo_nx
@[simp] theorem wo_bk (g : SSem) : WO g QO (.bk S) = QO (.bk S) := by apply DL0.wo_bk
@[simp] theorem wo_ct (g : SSem) : WO g QO (.ct S) = QO (.ct S) := by apply DL0.wo_ct
@[simp] theorem wo_rt (g : SSem) (r : SD) : WO g QO (.rt r S) = QO (.rt r S) := by apply DL0.wo_rt
@[simp] theorem w_seq (f g : SSem) : WP (sSeq f g) S QO = WP f S (WO g QO) := by apply DL0.w_seq
@[simp] theorem w_yes : WP sYes S QB = QB (true, S) := by apply DL0.w_yes
@[simp] theorem w_app (n k : Nat) (f g : AS) : WP (sApp n k f g) S QA = WP f S fun p => WP g p.2 fun q => (p.1.length = n ∧ q.1.length = k) ∧ QA (p.1 ++ q.1, q.2) := by apply DL0.w_app
@[simp] theorem w_callR (n : Nat) (m : Fn) (f : AS) : WP (sCallR n m f) S QV = WP f S fun p => OV (opSDs p.2 p.1) fun Dl => (p.1.length = n ∧ (ownIx p.2 p.1).Nodup) ∧ OV (m Dl) fun q => QV (q.1, wbGo p.1 q.2 0 p.2) := by apply DL0.w_callR
@[simp] theorem w_perm (pm : List Nat) (f : AS) : WP (sPerm pm f) S QA = WP f S fun p => QA (perm pm p.1, p.2) := by apply DL0.w_perm
@[simp] theorem w_call (n : Nat) (m : Fn) (f : AS) : WP (sCall n m f) S Q = WP (sCallR n m f) S fun p => OV (resD p.1) fun x => Q (.dat x, p.2) := by apply DL0.w_call
@[simp] theorem w_callL (n : Nat) (m : Fn) (f : AS) : WP (sCallL n m f) S QL = WP (sCallR n m f) S fun p => OV (resL p.1) fun x => QL (x, p.2) := by apply DL0.w_callL
@[simp] theorem w_callF (m : Fn) (f : LS) : WP (sCallF m f) S Q = WP f S fun p => OV (m [.own true p.1]) fun q => OV (onlyD q.1) fun x => Q (.dat x, p.2) := by apply DL0.w_callF
@[simp] theorem onlyD_d (x : PyData) : onlyD (.d x) = some x := rfl
@[simp] theorem w_isi (T : Tg) (f : ES) : WP (sIsi T f) S Q = WP f S fun p => OV (p.1.get p.2) fun x => OV (isTy T x) fun b => Q (.dat (.bool b), p.2) := by apply DL0.w_isi
@[simp] theorem w_isi2 (T U : Tg) (f : ES) : WP (sIsi2 T U f) S Q = WP f S fun p => OV (p.1.get p.2) fun x => OV (isTy T x) fun b => OV (isTy U x) fun c => Q (.dat (.bool (b || c)), p.2) := by apply DL0.w_isi2
@[simp] theorem w_seqI (f : DS) : WP (sSeqI f) S QL = WP f S fun p => OV (dItems p.1) fun xs => QL (xs, p.2) := by apply DL0.w_seqI
@[simp] theorem w_takeA (f : AS) {Q : List PyData × List SD → Prop} : WP (sTakeA f) S Q = WP f S fun p => OV (takeAll p.2 p.1) Q := by apply DL0.w_takeA
@[simp] theorem w_argI (g : List PyData → Option (List PyData)) (f : AS) : WP (sArgI g f) S QL = WP (sTakeA f) S fun p => OV (g p.1) fun xs => QL (xs, p.2) := by apply DL0.w_argI
@[simp] theorem w_noPart : WP sNoPart S QP = QP (none, S) := by apply DL0.w_noPart
@[simp] theorem w_part (f : ES) : WP (sPart f) S QP = WP f S fun p => OV (p.1.get p.2) fun x => OV (dIntO x) fun i => QP (some i, p.2) := by apply DL0.w_part
@[simp] theorem w_slice (f : ES) (fl fh : OS) : WP (sSlice f fl fh) S Q = WP f S fun p => WP fl p.2 fun q => WP fh q.2 fun r => OV (p.1.get r.2) fun x => OV (dCut x q.1 r.1) fun z => Q (.dat z, r.2) := by apply DL0.w_slice
@[simp] theorem w_sliceL (f : ES) (fl fh : OS) : WP (sSliceL f fl fh) S QL = WP f S fun p => WP fl p.2 fun q => WP fh q.2 fun r => OV (p.1.get r.2) fun x => OV (dCutL x q.1 r.1) fun z => QL (z, r.2) := by apply DL0.w_sliceL
@[simp] theorem w_vD (f : DS) : WP (vD f) S QV = WP f S fun p => QV (.d p.1, p.2) := by apply DL0.w_vD
@[simp] theorem w_vL (f : LS) : WP (vL f) S QV = WP f S fun p => QV (.own false p.1, p.2) := by apply DL0.w_vL
@[simp] theorem w_vLCt (f : LS) : WP (vLC true f) S QV = WP (vD (sTake (sKeep f))) S QV := by apply DL0.w_vLCt
@[simp] theorem w_vLCf (f : LS) : WP (vLC false f) S QV = WP (vL f) S QV := by apply DL0.w_vLCf
@[simp] theorem w_setV (f : VS) (i : Nat) : WP (sSetV f i) S QO = WP f S fun p => QO (.nx (p.2.set i p.1)) := by apply DL0.w_setV
@[simp] theorem w_retVS (f : VS) : WP (sRetVS f) S QO = WP f S fun p => QO (.rt p.1 p.2) := by apply DL0.w_retVS
@[simp] theorem w_par (i j : Nat) (f g : VS) : WP (sPar i j f g) S QO = WP f S fun p => WP (asideV p.1 g) p.2 fun q => QO (.nx ((q.2.set i p.1).set j q.1)) := by apply DL0.w_par
/-- a value read beside another one -/
def WAs (s : SD) (g : VS) (S : List SD) (Q : SD × List SD → Prop) : Prop := OV (asideV s g S) Q
@[simp] theorem w_asideD (x : PyData) (g : VS) : WP (asideV (.d x) g) S QV = WP g S QV := by apply DL0.w_asideD
@[simp] theorem w_asideO (b : Bool) (xs : List PyData) (g : VS) : WP (asideV (.own b xs) g) S QV = WP g (borGo [] 0 S) fun p => QV (p.1, unbGo [] 0 S p.2) := by apply DL0.w_asideO
@[simp] theorem w_index (fo fa : ES) : WP (sIndex fo fa) S Q = WP fo S fun p => OV (p.1.get p.2) fun l => isList l = true ∧ WP fa p.2 fun q => OV (p.1.get q.2) fun x => OV (q.1.get q.2) fun y => OV (dIndex x y) fun z => Q (.dat z, q.2) := by apply DL0.w_index
@[simp] theorem w_rg1 (f : ES) : WP (sRg1 f) S QR = WP f S fun p => OV (p.1.get p.2) fun x => OV (dIntO x) fun n => QR ((0, n), p.2) := by apply DL0.w_rg1
@[simp] theorem w_rg2 (f g : ES) : WP (sRg2 f g) S QR = WP f S fun p => WP g p.2 fun q => OV (p.1.get q.2) fun x => OV (q.1.get q.2) fun y => OV (dIntO x) fun n => OV (dIntO y) fun m => QR ((n, m), q.2) := by apply DL0.w_rg2
@[simp] theorem w_lstRg (f : RS) : WP (sLstRg f) S QL = WP f S fun p => rgB p.1.1 p.1.2 = true ∧ QL (rngD p.1.1 (p.1.2 - p.1.1).toNat, p.2) := by apply DL0.w_lstRg
@[simp] theorem w_tupRg (f : RS) : WP (sTupRg f) S Q = WP f S fun p => rgB p.1.1 p.1.2 = true ∧ Q (.dat (.tuple (rngD p.1.1 (p.1.2 - p.1.1).toNat)), p.2) := by apply DL0.w_tupRg
@[simp] theorem w_dict0 : WP sDict0 S Q = Q (.dat (.dict []), S) := by apply DL0.w_dict0
@[simp] theorem w_par3 (i j l : Nat) (f : AS) : WP (sPar3 i j l f) S QO = WP (sTakeA f) S fun p => OV (set3 i j l p.2 p.1) QO := by apply DL0.w_par3
@[simp] theorem set3_3 (i j l : Nat) (x y z : PyData) : set3 i j l S [x, y, z] = some (.nx (((S.set i (.d x)).set j (.d y)).set l (.d z))) := rfl
/-! a method -/
def WM (i : Nat) (g : List PyData → List PyData → Option (PyData × List PyData)) (p : List PyData × List SD) (Q : Op × List SD → Prop) : Option SD → Prop := DL0.WM i g p Q
@[simp] theorem wm_o (i : Nat) (g : List PyData → List PyData → Option (PyData × List PyData)) (p : List PyData × List SD) (b : Bool) (xs : List PyData) : WM i g p Q (some (.own b xs)) = OV (g xs p.1) fun z => Q (.dat z.1, p.2.set i (.own b z.2)) := by apply DL0.wm_o
@[simp] theorem w_meth (i : Nat) (g : List PyData → List PyData → Option (PyData × List PyData)) (f : AS) : WP (sMeth i g f) S Q = (isOwn (S[i]?) = true ∧ WP (sTakeA f) S fun p => WM i g p Q (p.2[i]?)) := by apply DL0.w_meth
/-! targets -/
@[simp] theorem wg_name (i : Nat) (x : PyData) : WG (gsName i) x S QG = QG (S.set i (.d x)) := by apply DL0.wg_name
@[simp] theorem wg_tup (n : Nat) (g : List PyData → List SD → Option (List SD)) (x : PyData) : WG (gsTup n g) x S QG = OV (dTup x) fun xs => xs.length = n ∧ WGs g xs S QG := by apply DL0.wg_tup
@[simp] theorem wg_sub (i : Nat) (f : ES) (x : PyData) : WG (gsSub i f) x S QG = (isOwnS (S[i]?) = true ∧ WP f S fun p => OV (p.1.get p.2) fun y => OV (dIntO y) fun k => OV (setAt i x k p.2 (p.2[i]?)) QG) := by apply DL0.wg_sub
@[simp] theorem wg_nil : WGs gsNil [] S QG = QG S := by apply DL0.wg_nil
@[simp] theorem wg_cons (g : GS) (gs : List PyData → List SD → Option (List SD)) (x : PyData) (xs : List PyData) : WGs (gsCons g gs) (x :: xs) S QG = WG g x S fun S1 => WGs gs xs S1 QG := by apply DL0.wg_cons
end

/-! ### comprehensions -/
def WLc (vs : List Nat) (gs : GS) (fc : BS) (fd : DS) (xs : List PyData) (S : List SD) (Q : List PyData × List SD → Prop) (d : Kt Q := .mk) : Prop := DL0.WLc vs gs fc fd xs S Q
def WLS (vs : List Nat) (gs : GS) (fc : BS) (fd : DS) (x : PyData) (S : List SD) (Q : Option PyData × List SD → Prop) (d : Kt Q := .mk) : Prop := DL0.WLS vs gs fc fd x S Q
section
variable {vs : List Nat} {gs : GS} {fc : BS} {fd : DS} {xs xs' : List PyData} {x x' : PyData} {S S' : List SD} {Q : List PyData × List SD → Prop} {QS : Option PyData × List SD → Prop}
@[simp] theorem w_lc (fi : LS) : WP (sLC vs fi gs fc fd) S Q = WP fi S fun p => p.1.length < 100000 ∧ WLc vs gs fc fd p.1 p.2 Q := by apply DL0.w_lc
@[simp] theorem w_ls : WLS vs gs fc fd x S QS = WG gs x (borGo vs 0 S) fun S1 => WP fc S1 fun p => if p.1 = true then WP fd p.2 fun q => QS (some q.1, unbGo vs 0 S q.2) else QS (none, unbGo vs 0 S p.2) := by apply DL0.w_ls
@[simp] theorem w_lcNil : WLc vs gs fc fd [] S Q = Q ([], S) := by apply DL0.w_lcNil
@[simp] theorem w_lcCons : WLc vs gs fc fd (x :: xs) S Q = WLS vs gs fc fd x S fun p => WLc vs gs fc fd xs p.2 fun z => Q (p.1.toList ++ z.1, z.2) := by apply DL0.w_lcCons
/-- the slots stay: an item of F x each -/
theorem WLc.map (F : PyData → PyData) (h : ∀ x ∈ xs, WLS vs gs fc fd x S fun q => q = (some (F x), S)) (k : Q (xs.map F, S)) : WLc vs gs fc fd xs S Q :=
  ⟨_, lc_map F xs fun x hx => (h x hx).eq, k⟩
theorem WLc.fmap (F : PyData → Option PyData) (h : ∀ x ∈ xs, WLS vs gs fc fd x S fun q => q = (F x, S)) (k : Q (xs.filterMap F, S)) : WLc vs gs fc fd xs S Q :=
  ⟨_, lc_stable F xs fun x hx => (h x hx).eq, k⟩
/-- .. for a list that is itself a map -/
theorem WLc.mapOf {α : Type} {l : List α} (e : α → PyData) (F : α → PyData) (h : ∀ a ∈ l, WLS vs gs fc fd (e a) S fun q => q = (some (F a), S)) (k : Q (l.map F, S)) : WLc vs gs fc fd (l.map e) S Q := by
  refine ⟨_, ?_, k⟩
  clear k
  induction l with
  | nil => rfl
  | cons a l ih =>
    rw [List.map_cons, lcGo_cons, (h a (by simp)).eq]
    simp only [Option.bind_some]
    rw [ih fun b hb => h b (List.mem_cons_of_mem _ hb)]
    rfl
theorem WLc.fmapOf {α : Type} {l : List α} (e : α → PyData) (F : α → Option PyData) (h : ∀ a ∈ l, WLS vs gs fc fd (e a) S fun q => q = (F a, S)) (k : Q (l.filterMap F, S)) : WLc vs gs fc fd (l.map e) S Q := by
  refine ⟨_, ?_, k⟩
  clear k
  induction l with
  | nil => rfl
  | cons a l ih =>
    rw [List.map_cons, lcGo_cons, (h a (by simp)).eq]
    simp only [Option.bind_some]
    rw [ih fun b hb => h b (List.mem_cons_of_mem _ hb)]
    cases z : F a <;> simp [z]
/-- an invariant of what is gone through and what has come out -/
theorem WLc.inv (I : List PyData → List PyData → List SD → Prop) (h0 : I [] [] S) (h : ∀ pre x post ys S, xs = pre ++ x :: post → I pre ys S → WLS vs gs fc fd x S fun q => I (pre ++ [x]) (ys ++ q.1.toList) q.2) (k : ∀ ys S, I xs ys S → Q (ys, S)) : WLc vs gs fc fd xs S Q := by
  have key : ∀ (post pre ys : List PyData) (S : List SD), xs = pre ++ post → I pre ys S → ∃ zs S', lcGo vs gs fc fd post S = some (zs, S') ∧ I xs (ys ++ zs) S' := by
    intro post
    induction post with
    | nil => intro pre ys S e i; exact ⟨[], S, rfl, by rw [e]; simpa using i⟩
    | cons x post ih =>
      intro pre ys S e i
      obtain ⟨⟨o, S1⟩, h1, h2⟩ := h pre x post ys S e i
      obtain ⟨zs, S2, h3, h4⟩ := ih (pre ++ [x]) (ys ++ o.toList) S1 (by rw [e]; simp) h2
      refine ⟨o.toList ++ zs, S2, ?_, by rw [← List.append_assoc]; exact h4⟩
      rw [lcGo_cons, h1]
      simp only [Option.bind_some, h3, Option.map_some]
  obtain ⟨zs, S', h1, h2⟩ := key xs [] [] S rfl h0
  exact ⟨_, h1, k _ _ (by simpa using h2)⟩
end

/-! ### loops -/
def WFor (gs : GS) (fb : SSem) (xs : List PyData) (S : List SD) (Q : Out → Prop) (d : Kt Q := .mk) : Prop := DL0.WFor gs fb xs S Q
/-- behind a turn: G what is next in the loop -/
def WT (G : List SD → Prop) (Q : Out → Prop) : Out → Prop := DL0.WT G Q
section
variable {gs : GS} {fb : SSem} {xs xs' : List PyData} {x x' : PyData} {S S' : List SD} {Q : Out → Prop} {G : List SD → Prop}
@[simp] theorem wt_nx : WT G Q (.nx S) = G S := by apply DL0.wt_nx
@[simp] theorem wt_ct : WT G Q (.ct S) = G S := by apply DL0.wt_ct
@[simp] theorem wt_bk : WT G Q (.bk S) = Q (.nx S) := by apply DL0.wt_bk
@[simp] theorem wt_rt (r : SD) : WT G Q (.rt r S) = Q (.rt r S) := by apply DL0.wt_rt
@[simp] theorem w_for (fi : LS) : WP (sFor fi gs fb) S Q = WP fi S fun p => WFor gs fb p.1 p.2 Q := by apply DL0.w_for
@[simp] theorem w_forNil : WFor gs fb [] S Q = Q (.nx S) := by apply DL0.w_forNil
@[simp] theorem w_forCons : WFor gs fb (x :: xs) S Q = WG gs x S fun S1 => WP fb S1 (WT (fun S2 => WFor gs fb xs S2 Q) Q) := by apply DL0.w_forCons
theorem WFor.inv (I : List PyData → List SD → Prop) (h0 : I [] S) (h : ∀ pre x post S, xs = pre ++ x :: post → I pre S → WG gs x S fun S1 => WP fb S1 (WT (I (pre ++ [x])) Q)) (k : ∀ S, I xs S → Q (.nx S)) : WFor gs fb xs S Q := by
  have key : ∀ (post pre : List PyData) (S : List SD), xs = pre ++ post → I pre S → WFor gs fb post S Q := by
    intro post
    induction post with
    | nil => intro pre S e i; rw [w_forNil]; exact k S (by rw [e]; simpa using i)
    | cons x post ih =>
      intro pre S e i
      rw [w_forCons]
      refine OV.use (h pre x post S e i) fun S1 h1 => OV.use h1 fun o h2 => ?_
      cases o with
      | nx S2 => exact ih (pre ++ [x]) S2 (by rw [e]; simp) h2
      | ct S2 => exact ih (pre ++ [x]) S2 (by rw [e]; simp) h2
      | bk S2 => exact h2
      | rt r S2 => exact h2
  exact key xs [] S rfl h0
/-- .. over a list that is a map -/
theorem WFor.invOf {α : Type} {l : List α} (e : α → PyData) (I : List α → List SD → Prop) (h0 : I [] S) (h : ∀ pre a post S, l = pre ++ a :: post → I pre S → WG gs (e a) S fun S1 => WP fb S1 (WT (I (pre ++ [a])) Q)) (k : ∀ S, I l S → Q (.nx S)) : WFor gs fb (l.map e) S Q := by
  have key : ∀ (post pre : List α) (S : List SD), l = pre ++ post → I pre S → WFor gs fb (post.map e) S Q := by
    intro post
    induction post with
    | nil => intro pre S q i; rw [List.map_nil, w_forNil]; exact k S (by rw [q]; simpa using i)
    | cons x post ih =>
      intro pre S q i
      rw [List.map_cons, w_forCons]
      refine OV.use (h pre x post S q i) fun S1 h1 => OV.use h1 fun o h2 => ?_
      cases o with
      | nx S2 => exact ih (pre ++ [x]) S2 (by rw [q]; simp) h2
      | ct S2 => exact ih (pre ++ [x]) S2 (by rw [q]; simp) h2
      | bk S2 => exact h2
      | rt r S2 => exact h2
  exact key l [] S rfl h0
end
def WWh (ft : BS) (fb : SSem) (n : Nat) (S : List SD) (Q : Out → Prop) (d : Kt Q := .mk) : Prop := DL0.WWh ft fb n S Q
section
variable {ft : BS} {fb : SSem} {n : Nat} {S S' : List SD} {Q : Out → Prop}
@[simp] theorem w_while : WP (sWhile n ft fb) S Q = WWh ft fb n S Q := by apply DL0.w_while
/-- I k: at most k turns are left -/
theorem WWh.inv (I : Nat → List SD → Prop) (k0 : Nat) (h0 : I k0 S) (hk : k0 < n) (h : ∀ k S, I k S → WP ft S fun p => if p.1 = true then WP fb p.2 (WT (fun S2 => ∃ j, j < k ∧ I j S2) Q) else Q (.nx p.2)) : WWh ft fb n S Q := by
  have key : ∀ (n k : Nat) (S : List SD), k < n → I k S → WWh ft fb n S Q := by
    intro n
    induction n with
    | zero => intro k S hk; omega
    | succ n ih =>
      intro k S hk i
      unfold WWh
      show OV ((ft S).bind fun p => if p.1 = true then (fb p.2).bind fun o => match o with
        | .nx S2 => whileGo ft fb n S2
        | .ct S2 => whileGo ft fb n S2
        | .bk S2 => some (.nx S2)
        | .rt r S2 => some (.rt r S2) else some (.nx p.2)) Q
      rw [OV_bind]
      refine OV.use (h k S i) fun p hp => ?_
      rw [OV_ite]
      split
      · rename_i hc
        rw [if_pos hc] at hp
        rw [OV_bind]
        refine OV.use hp fun o h2 => ?_
        cases o with
        | nx S2 => obtain ⟨j, hj, i2⟩ := h2; exact ih j S2 (by omega) i2
        | ct S2 => obtain ⟨j, hj, i2⟩ := h2; exact ih j S2 (by omega) i2
        | bk S2 => rw [OV_some]; exact h2
        | rt r S2 => rw [OV_some]; exact h2
      · rename_i hc
        rw [if_neg hc] at hp
        rw [OV_some]; exact hp
  exact key n k0 S hk h0
end

/-! ### invariants that simp leaves alone -/
abbrev At (I : List SD → Prop) (S : List SD) (d : Kt I := .mk) : Prop := I S
theorem WFor.invA {gs : GS} {fb : SSem} {xs : List PyData} {S : List SD} {Q : Out → Prop} (I : List PyData → List SD → Prop) (h0 : I [] S) (h : ∀ pre x post S, xs = pre ++ x :: post → I pre S → WG gs x S fun S1 => WP fb S1 (WT (fun S => At (I (pre ++ [x])) S) Q)) (k : ∀ S, I xs S → Q (.nx S)) : WFor gs fb xs S Q := WFor.inv I h0 h k
theorem WFor.invOfA {gs : GS} {fb : SSem} {S : List SD} {Q : Out → Prop} {α : Type} {l : List α} (e : α → PyData) (I : List α → List SD → Prop) (h0 : I [] S) (h : ∀ pre a post S, l = pre ++ a :: post → I pre S → WG gs (e a) S fun S1 => WP fb S1 (WT (fun S => At (I (pre ++ [a])) S) Q)) (k : ∀ S, I l S → Q (.nx S)) : WFor gs fb (l.map e) S Q := WFor.invOf e I h0 h k
theorem WLc.invA {vs : List Nat} {gs : GS} {fc : BS} {fd : DS} {xs : List PyData} {S : List SD} {Q : List PyData × List SD → Prop} (I : List PyData → List PyData → List SD → Prop) (h0 : I [] [] S) (h : ∀ pre x post ys S, xs = pre ++ x :: post → I pre ys S → WLS vs gs fc fd x S fun q => At (I (pre ++ [x]) (ys ++ q.1.toList)) q.2) (k : ∀ ys S, I xs ys S → Q (ys, S)) : WLc vs gs fc fd xs S Q := WLc.inv I h0 h k
theorem WWh.invA {ft : BS} {fb : SSem} {n : Nat} {S : List SD} {Q : Out → Prop} (I : Nat → List SD → Prop) (k0 : Nat) (h0 : I k0 S) (hk : k0 < n) (h : ∀ k S, I k S → WP ft S fun p => if p.1 = true then WP fb p.2 (WT (fun S => At (fun S2 => ∃ j, j < k ∧ I j S2) S) Q) else Q (.nx p.2)) : WWh ft fb n S Q := WWh.inv I k0 h0 hk h

/-! ### defs -/
theorem OV_defn (N : Nat) (f : SSem) (Dl : List SD) {Q : SD × List SD → Prop} : OV (defn N f Dl) Q = WP f (Dl ++ List.replicate (N - Dl.length) .un) fun o => OV (defOut Dl o) Q := OV_bind _ _
end DL

set_option Elab.async false
set_option linter.all false
set_option maxRecDepth 100000
set_option maxHeartbeats 4000000
/-! PL: plain values told as data, typed: ints, tuples, lists of them; what the data's functions do there. -/
namespace DL
open PySem L2

section
variable {α β : Type} [DecidableEq α] [DecidableEq β] {n m : Nat} {e : α → PyData} {f : β → PyData}
/-- e tells values as data, faithfully; n: how deep -/
structure IsEnc (n : Nat) (e : α → PyData) : Prop where
  fit : ∀ a, fitN n (e a) = true
  eqv : ∀ a b, PyData.eqv (e a) (e b) = decide (a = b)
theorem IsEnc.mono (h : IsEnc n e) (k : n ≤ m) : IsEnc m e := ⟨fun a => fit_mono (h.fit a) k, h.eqv⟩
theorem eqvAll_enc (h : IsEnc n e) : ∀ xs ys : List α, PyData.eqvAll (xs.map e) (ys.map e) = decide (xs = ys)
  | [], [] => by simp [PyData.eqvAll]
  | [], _ :: _ => by simp [PyData.eqvAll]
  | _ :: _, [] => by simp [PyData.eqvAll]
  | x :: xs, y :: ys => by
    simp only [List.map_cons, PyData.eqvAll, h.eqv, eqvAll_enc h xs ys]
    rw [Bool.eq_iff_iff]
    simp
theorem fit_all (h : IsEnc n e) (xs : List α) : (xs.map e).all (fitN n) = true := by
  rw [List.all_eq_true]
  intro x hx
  obtain ⟨i, _, rfl⟩ := List.mem_map.mp hx
  exact h.fit i
theorem enc_int (n : Nat) : IsEnc n PyData.int := ⟨fit_int n, fun a b => by simp only [PyData.eqv]; rw [Bool.eq_iff_iff]; simp⟩
theorem IsEnc.tup (h : IsEnc n e) : IsEnc (n + 1) fun xs : List α => PyData.tuple (xs.map e) := ⟨fun xs => by rw [fit_tuple]; exact fit_all h xs, fun xs ys => by simp only [PyData.eqv, eqvAll_enc h]⟩
theorem IsEnc.lst (h : IsEnc n e) : IsEnc (n + 1) fun xs : List α => PyData.list (xs.map e) := ⟨fun xs => by rw [fit_list]; exact fit_all h xs, fun xs ys => by simp only [PyData.eqv, eqvAll_enc h]⟩
theorem IsEnc.pair (h : IsEnc n e) (g : IsEnc n f) : IsEnc (n + 1) fun p : α × β => PyData.tuple [e p.1, f p.2] := ⟨fun p => by rw [fit_tuple]; simp [h.fit, g.fit], fun p q => by
  simp only [PyData.eqv, PyData.eqvAll, h.eqv, g.eqv, Bool.and_true]
  rw [Bool.eq_iff_iff]
  obtain ⟨a, b⟩ := p
  obtain ⟨c, d⟩ := q
  simp⟩
theorem IsEnc.inj (h : IsEnc n e) {a b : α} (q : e a = e b) : a = b := by
  have := h.eqv a b
  rw [← q] at this
  have r := fit_self (h.fit a)
  rw [r] at this
  simpa using this.symm
theorem strEq_enc (h : IsEnc n e) (a b : α) : strEq (e a) (e b) = none ∨ strEq (e a) (e b) = some (decide (a = b)) := by
  unfold strEq
  split
  · rename_i x y h1 h2
    refine .inr ?_
    congr 1
    have := h.eqv a b
    rw [h1, h2] at this
    rw [← this]
    simp only [PyData.eqv]
    rw [Bool.eq_iff_iff]
    simp
  · exact .inl rfl
theorem dEq_enc (h : IsEnc n e) (hn : n ≤ 60) (a b : α) : dEq (e a) (e b) = some (.bool (decide (a = b))) := by
  unfold dEq
  rcases strEq_enc h a b with q | q
  · rw [q]
    show (if _ then _ else _) = _
    rw [if_pos ⟨(h.mono hn).fit a, (h.mono hn).fit b⟩, h.eqv]
  · rw [q]
theorem dNe_enc (h : IsEnc n e) (hn : n ≤ 60) (a b : α) : dNe (e a) (e b) = some (.bool (!decide (a = b))) := by
  unfold dNe
  rcases strEq_enc h a b with q | q
  · rw [q]
    show (if _ then _ else _) = _
    rw [if_pos ⟨(h.mono hn).fit a, (h.mono hn).fit b⟩, h.eqv]
  · rw [q]
theorem any_enc (h : IsEnc n e) (a : α) : ∀ xs : List α, ((xs.map e).any fun z => PyData.eqv z (e a)) = decide (a ∈ xs)
  | [] => by simp
  | x :: xs => by
    rw [List.map_cons, List.any_cons, any_enc h a xs, h.eqv, Bool.eq_iff_iff]
    simp only [Bool.or_eq_true, decide_eq_true_eq, List.mem_cons]
    exact or_congr eq_comm Iff.rfl
theorem dIn_enc (h : IsEnc n e) (hn : n ≤ 59) (a : α) (xs : List α) : dIn (e a) (.tuple (xs.map e)) = some (.bool (decide (a ∈ xs))) ∧ dIn (e a) (.list (xs.map e)) = some (.bool (decide (a ∈ xs))) := by
  have h1 := (h.mono (show n ≤ 60 by omega)).fit a
  have h2 := ((h.mono hn).tup).fit xs
  have h3 := ((h.mono hn).lst).fit xs
  constructor
  · unfold dIn; rw [if_pos ⟨h1, h2⟩]; simp only [dItems, Option.map_some, any_enc h]
  · unfold dIn; rw [if_pos ⟨h1, h3⟩]; simp only [dItems, Option.map_some, any_enc h]
theorem dNotIn_enc (h : IsEnc n e) (hn : n ≤ 59) (a : α) (xs : List α) : dNotIn (e a) (.tuple (xs.map e)) = some (.bool (!decide (a ∈ xs))) ∧ dNotIn (e a) (.list (xs.map e)) = some (.bool (!decide (a ∈ xs))) := by
  have h1 := (h.mono (show n ≤ 60 by omega)).fit a
  have h2 := ((h.mono hn).tup).fit xs
  have h3 := ((h.mono hn).lst).fit xs
  constructor
  · unfold dNotIn; rw [if_pos ⟨h1, h2⟩]; simp only [dItems, Option.map_some, any_enc h]
  · unfold dNotIn; rw [if_pos ⟨h1, h3⟩]; simp only [dItems, Option.map_some, any_enc h]
/-! first ones -/
def addA (acc : List α) (x : α) : List α := if x ∈ acc then acc else acc ++ [x]
def firsts (xs : List α) : List α := xs.foldl addA []
theorem firsts_snoc (xs : List α) (x : α) : firsts (xs ++ [x]) = addA (firsts xs) x := by simp [firsts, List.foldl_append]
@[simp] theorem firsts_nil : firsts ([] : List α) = [] := rfl
theorem mem_addA {acc : List α} {x y : α} : y ∈ addA acc x ↔ y ∈ acc ∨ y = x := by
  unfold addA
  split
  · rename_i h; constructor
    · exact .inl
    · rintro (h' | rfl) <;> assumption
  · simp
theorem mem_firsts {y : α} {xs : List α} : y ∈ firsts xs ↔ y ∈ xs := by
  refine snoc_ind (P := fun xs => y ∈ firsts xs ↔ y ∈ xs) (by simp) (fun xs x ih => ?_) xs
  rw [firsts_snoc, mem_addA, ih]; simp
theorem nodup_firsts (xs : List α) : (firsts xs).Nodup := by
  refine snoc_ind (P := fun xs => (firsts xs).Nodup) (by simp) (fun xs x ih => ?_) xs
  rw [firsts_snoc]
  unfold addA
  split
  · exact ih
  · rename_i h
    rw [List.nodup_append]
    exact ⟨ih, by simp, fun a ha b hb => by rw [List.mem_singleton.mp hb]; exact fun q => h (q ▸ ha)⟩
theorem firsts_len (xs : List α) : (firsts xs).length ≤ xs.length := by
  refine snoc_ind (P := fun xs => (firsts xs).length ≤ xs.length) (by simp) (fun xs x ih => ?_) xs
  rw [firsts_snoc]
  unfold addA
  split <;> simp <;> omega
theorem firsts_ne {xs : List α} (h : 1 ≤ xs.length) : 1 ≤ (firsts xs).length := by
  cases xs with
  | nil => simp at h
  | cons x r =>
    have : x ∈ firsts (x :: r) := mem_firsts.mpr (by simp)
    exact List.length_pos_iff.mpr (List.ne_nil_of_mem this)
theorem addF_enc (h : IsEnc n e) (acc : List α) (x : α) : addF (acc.map e) (e x) = (addA acc x).map e := by
  unfold addF addA
  rw [any_enc h]
  by_cases q : x ∈ acc <;> simp [q]
theorem byF_enc (h : IsEnc n e) (xs : List α) : byF (xs.map e) = (firsts xs).map e := by
  refine snoc_ind (P := fun xs => byF (xs.map e) = (firsts xs).map e) (by simp) (fun xs x ih => ?_) xs
  rw [List.map_append, firsts_snoc, List.map_cons, List.map_nil, byF_snoc, ih, addF_enc h]
/-! places -/
def nIx (a : α) : List α → Nat
  | [] => 0
  | x :: r => if x = a then 0 else nIx a r + 1
theorem nIx_lt {a : α} : ∀ {xs : List α}, a ∈ xs → nIx a xs < xs.length
  | [], h => by simp at h
  | x :: r, h => by
    unfold nIx
    split
    · simp
    · rename_i hx
      have : a ∈ r := by rcases List.mem_cons.mp h with q | q; exact absurd q.symm hx; exact q
      have := nIx_lt this
      simp; omega
theorem nIx_get {a : α} : ∀ {xs : List α}, a ∈ xs → xs[nIx a xs]? = some a
  | [], h => by simp at h
  | x :: r, h => by
    unfold nIx
    split
    · rename_i hx; simp [hx]
    · rename_i hx
      have : a ∈ r := by rcases List.mem_cons.mp h with q | q; exact absurd q.symm hx; exact q
      simpa using nIx_get this
theorem nIx_min {a : α} : ∀ {xs : List α} {i : Nat}, xs[i]? = some a → nIx a xs ≤ i
  | [], i, h => by simp at h
  | x :: r, 0, h => by
    unfold nIx
    rw [if_pos (by simpa using h)]; exact Nat.le_refl _
  | x :: r, i + 1, h => by
    unfold nIx
    split
    · omega
    · have := nIx_min (xs := r) (i := i) (by simpa using h); omega
theorem nIx_nodup {a : α} {xs : List α} (hd : xs.Nodup) {i : Nat} (h : xs[i]? = some a) : nIx a xs = i := by
  have h1 := nIx_min h
  obtain ⟨hi, he⟩ := List.getElem?_eq_some_iff.mp h
  have hm : a ∈ xs := by rw [← he]; exact List.getElem_mem hi
  have h2 := nIx_get hm
  obtain ⟨hj, he2⟩ := List.getElem?_eq_some_iff.mp h2
  exact (List.getElem_inj hd).mp (he2.trans he.symm)
theorem firstIx_enc (h : IsEnc n e) (a : α) : ∀ xs : List α, firstIx (e a) (xs.map e) = if a ∈ xs then some (nIx a xs) else none
  | [] => by simp [firstIx]
  | x :: r => by
    rw [List.map_cons]
    unfold firstIx nIx
    rw [h.eqv, firstIx_enc h a r]
    by_cases q : x = a
    · simp [q]
    · have q' : ¬ a = x := fun z => q z.symm
      by_cases q2 : a ∈ r <;> simp [q, q', q2]
theorem dIndex_enc (h : IsEnc n e) (hn : n ≤ 59) {a : α} {xs : List α} (hm : a ∈ xs) : dIndex (.list (xs.map e)) (e a) = some (.int (nIx a xs : Nat)) := by
  unfold dIndex
  show (if _ then _ else _) = _
  rw [if_pos ⟨((h.mono hn).lst).fit xs, (h.mono (show n ≤ 60 by omega)).fit a⟩, firstIx_enc h, if_pos hm]; rfl
end

/-! ### places by ints -/
section
variable {α β : Type}
theorem atI_of {xs : List α} {i : Int} (h : 0 ≤ i) : atI xs i = xs[i.toNat]? := by
  obtain ⟨k, rfl⟩ := Int.eq_ofNat_of_zero_le h
  unfold atI ixN
  simp only [Int.natCast_nonneg, if_true, Int.toNat_natCast]
  by_cases h : k < xs.length
  · rw [if_pos (by omega)]; simp
  · rw [if_neg (by omega), List.getElem?_eq_none (by omega)]; rfl
@[simp] theorem atI_map (e : α → β) (xs : List α) (i : Int) : atI (xs.map e) i = (atI xs i).map e := by
  unfold atI
  rw [List.length_map]
  cases ixN xs.length i with
  | none => rfl
  | some j => simp
/-- the item at a place -/
def nth [Inhabited α] (xs : List α) (i : Int) : α := xs.getD i.toNat default
theorem atI_nth [Inhabited α] {xs : List α} {i : Int} (h1 : 0 ≤ i) (h2 : i < xs.length) : atI xs i = some (nth xs i) := by
  rw [atI_of h1]
  have : i.toNat < xs.length := by omega
  simp [nth, List.getD_eq_getElem?_getD, this]
theorem nth_mem [Inhabited α] {xs : List α} {i : Int} (h1 : 0 ≤ i) (h2 : i < xs.length) : nth xs i ∈ xs := by
  have : i.toNat < xs.length := by omega
  simp [nth, List.getD_eq_getElem?_getD, this]
@[simp] theorem nth_nat [Inhabited α] (xs : List α) (i : Nat) : nth xs (i : Int) = xs.getD i default := by simp [nth]
theorem nth_map [Inhabited α] [Inhabited β] (e : α → β) {xs : List α} {i : Int} (h1 : 0 ≤ i) (h2 : i < xs.length) : nth (xs.map e) i = e (nth xs i) := by
  have : i.toNat < xs.length := by omega
  simp [nth, List.getD_eq_getElem?_getD, this]
theorem nth_ext [Inhabited α] {xs ys : List α} (hl : xs.length = ys.length) (h : ∀ i : Nat, i < xs.length → nth xs i = nth ys i) : xs = ys := by
  apply List.ext_getElem hl
  intro i h1 h2
  have := h i h1
  simpa [List.getD_eq_getElem?_getD, h1, h2] using this
theorem cutD_map (e : α → PyData) (xs : List α) (lo hi : Option Int) : cutD (xs.map e) lo hi = ((xs.drop (HT.sIx xs.length 0 lo)).take (HT.sIx xs.length xs.length hi - HT.sIx xs.length 0 lo)).map e := by
  unfold cutD
  rw [List.length_map, List.map_take, List.map_drop]
theorem cutI_to {xs : List PyData} {k : Int} (h : 0 ≤ k) : cutD xs none (some k) = xs.take k.toNat := cut_to' xs k k.toNat (by omega)
theorem cutI_from {xs : List PyData} {k : Int} (h : 0 ≤ k) : cutD xs (some k) none = xs.drop k.toNat := cut_from' xs k k.toNat (by omega)
theorem cutI_all (xs : List PyData) : cutD xs none none = xs := by
  unfold cutD
  rw [HT.sIx_none, HT.sIx_none]; simp
theorem zipD_map (e : α → PyData) (f : β → PyData) : ∀ (xs : List α) (ys : List β), zipD (xs.map e) (ys.map f) = (xs.zip ys).map fun p => .tuple [e p.1, f p.2]
  | [], _ => by simp [zipD]
  | _ :: _, [] => by simp [zipD]
  | x :: xs, y :: ys => by simp [zipD, zipD_map e f xs ys]
theorem enumD_map (e : α → PyData) : ∀ (xs : List α) (c : Nat), enumD (c : Int) (xs.map e) = (xs.zipIdx c).map fun p => .tuple [.int (p.2 : Nat), e p.1]
  | [], _ => by simp [enumD]
  | x :: xs, c => by
    have := enumD_map e xs (c + 1)
    simp only [List.map_cons, enumD, List.zipIdx_cons]
    rw [← this]; rfl
theorem enumD_map0 (e : α → PyData) (xs : List α) : enumD 0 (xs.map e) = xs.zipIdx.map fun p => .tuple [.int (p.2 : Nat), e p.1] := enumD_map e xs 0
theorem zipIdx_split {α : Type} {l : List α} {pre post : List (α × Nat)} {x : α} {i : Nat} (h : l.zipIdx = pre ++ (x, i) :: post) : i = pre.length ∧ l = pre.map Prod.fst ++ x :: post.map Prod.fst := by
  constructor
  · have h1 := congrArg (fun l => l[pre.length]?) h
    simp only [List.getElem?_append_right (Nat.le_refl _), Nat.sub_self, List.getElem?_cons_zero, List.getElem?_zipIdx] at h1
    obtain ⟨y, _, h2⟩ := Option.map_eq_some_iff.mp h1
    have := congrArg Prod.snd h2
    simp at this
    exact this.symm
  · have h1 := congrArg (List.map Prod.fst) h
    rw [List.zipIdx_map_fst] at h1
    rw [h1]; simp
/-- 0 .. n - 1 -/
def upto (n : Nat) : List Int := (List.range n).map fun (i : Nat) => (i : Int)
@[simp] theorem upto_len (n : Nat) : (upto n).length = n := by simp [upto]
theorem mem_upto {n : Nat} {i : Int} : i ∈ upto n ↔ 0 ≤ i ∧ i < n := by
  unfold upto
  rw [List.mem_map]
  constructor
  · rintro ⟨k, hk, rfl⟩; have := List.mem_range.mp hk; omega
  · intro h; exact ⟨i.toNat, List.mem_range.mpr (by omega), by omega⟩
theorem upto_succ (n : Nat) : upto (n + 1) = upto n ++ [(n : Int)] := by simp [upto, List.range_succ]
theorem rngD_upto (n : Nat) : rngD 0 n = (upto n).map .int := by simp [rngD, upto]
theorem upto_pw (n : Nat) : (upto n).Pairwise (· < ·) := by
  unfold upto
  rw [List.pairwise_map]
  exact List.pairwise_lt_range.imp fun h => by omega
theorem upto_get {n i : Nat} (h : i < n) : (upto n)[i]? = some (i : Int) := by simp [upto, h]
theorem rngI_int {j : Int} (h1 : 0 ≤ j) (h2 : j ≤ 100000) : rngI [.int j] = some ((upto j.toNat).map .int) := by rw [rngI_ok h1 h2, rngD_upto]
theorem rngI_nat (n : Nat) (h : n ≤ 100000) : rngI [.int (n : Int)] = some ((upto n).map .int) := by rw [rngI_n n h, rngD_upto]
end

/-! ### tuples of ints, tuples of these, drafts -/
def tI (ns : List Int) : PyData := .tuple (ns.map .int)
def tT (ts : List (List Int)) : PyData := .tuple (ts.map tI)
def drD (rows : List (List Int)) : PyData := .tuple [.str "draft", tT rows]
section
variable (ns ms : List Int) (ts us : List (List Int))
theorem enc_tI : IsEnc 1 tI := (enc_int 0).tup
theorem enc_tT : IsEnc 2 tT := enc_tI.tup
theorem strOk_lit {x : Str} (h : PyData.strOk x = true := by decide +kernel) : PyData.strOk x = true := h
theorem enc_drD : IsEnc 3 drD := ⟨fun a => by
    unfold drD
    rw [fit_tuple]
    have : PyData.strOk "draft" = true := by decide +kernel
    simp [fit_str, this, enc_tT.fit], fun a b => by
    unfold drD
    simp only [PyData.eqv, PyData.eqvAll, enc_tT.eqv, Bool.and_true]
    simp⟩
@[simp] theorem items_tI : dItems (tI ns) = some (ns.map .int) := rfl
@[simp] theorem items_tT : dItems (tT ts) = some (ts.map tI) := rfl
@[simp] theorem len_tI : dLen [tI ns] = some (.int ns.length) := by show some (PyData.int (ns.map PyData.int).length) = _; rw [List.length_map]
@[simp] theorem len_tT : dLen [tT ts] = some (.int ts.length) := by show some (PyData.int (ts.map tI).length) = _; rw [List.length_map]
@[simp] theorem ix_tI (i : Int) : dIx (tI ns) (.int i) = (atI ns i).map .int := atI_map _ _ _
@[simp] theorem ix_tT (i : Int) : dIx (tT ts) (.int i) = (atI ts i).map tI := atI_map _ _ _
@[simp] theorem ix_dr1 : dIx (drD ts) (.int 1) = some (tT ts) := by show atI _ _ = _; simp
@[simp] theorem ix_dr0 : dIx (drD ts) (.int 0) = some (.str "draft") := by show atI _ _ = _; simp
@[simp] theorem tup_tI : dTuple [tI ns] = some (tI ns) := rfl
@[simp] theorem tup_tT : dTuple [tT ns'] = some (tT ns') := rfl
@[simp] theorem list_tI : dListL [tI ns] = some (ns.map .int) := rfl
@[simp] theorem list_tT : dListL [tT ts] = some (ts.map tI) := rfl
@[simp] theorem isTy_tI (T : Tg) : isTy T (tI ns) = some (tgIs T .tuple) := rfl
@[simp] theorem isTy_tT (T : Tg) : isTy T (tT ts) = some (tgIs T .tuple) := rfl
@[simp] theorem isTy_dr (T : Tg) : isTy T (drD ts) = some (tgIs T .tuple) := rfl
@[simp] theorem dTup_tI : dTup (tI ns) = some (ns.map .int) := rfl
@[simp] theorem dTup_tT : dTup (tT ts) = some (ts.map tI) := rfl
@[simp] theorem rev_tI : dRev (tI ns) = some (tI ns.reverse) := by show some (PyData.tuple (ns.map PyData.int).reverse) = _; rw [← List.map_reverse]; rfl
@[simp] theorem rev_tT : dRev (tT ts) = some (tT ts.reverse) := by show some (PyData.tuple (ts.map tI).reverse) = _; rw [← List.map_reverse]; rfl
@[simp] theorem enumI_tI : enumI [tI ns] = some (ns.zipIdx.map fun p => .tuple [.int (p.2 : Nat), .int p.1]) := by show some (enumD 0 (ns.map .int)) = _; rw [enumD_map0]
@[simp] theorem enumI_tT : enumI [tT ts] = some (ts.zipIdx.map fun p => .tuple [.int (p.2 : Nat), tI p.1]) := by show some (enumD 0 (ts.map tI)) = _; rw [enumD_map0]
@[simp] theorem zip_tI : zipI [tI ns, tI ms] = some ((ns.zip ms).map fun p => .tuple [.int p.1, .int p.2]) := by show some (zipD (ns.map .int) (ms.map .int)) = _; rw [zipD_map]
@[simp] theorem zip_tT : zipI [tT ts, tT us] = some ((ts.zip us).map fun p => .tuple [tI p.1, tI p.2]) := by show some (zipD (ts.map tI) (us.map tI)) = _; rw [zipD_map]
theorem rising_zip : ∀ l : List Int, ((l.zip (l.drop 1)).all fun p => decide (p.1 < p.2)) = rising l
  | [] => rfl
  | [x] => rfl
  | x :: y :: r => by
    have ih := rising_zip (y :: r)
    simp only [List.drop_succ_cons, List.drop_zero] at ih ⊢
    simp only [List.zip_cons_cons, List.all_cons, rising, ih]
@[simp] theorem eq_tI : dEq (tI ns) (tI ms) = some (.bool (decide (ns = ms))) := dEq_enc enc_tI (by decide) _ _
@[simp] theorem ne_tI : dNe (tI ns) (tI ms) = some (.bool (!decide (ns = ms))) := dNe_enc enc_tI (by decide) _ _
@[simp] theorem eq_tT : dEq (tT ts) (tT us) = some (.bool (decide (ts = us))) := dEq_enc enc_tT (by decide) _ _
@[simp] theorem ne_tT : dNe (tT ts) (tT us) = some (.bool (!decide (ts = us))) := dNe_enc enc_tT (by decide) _ _
@[simp] theorem eq_dr : dEq (drD ts) (drD us) = some (.bool (decide (ts = us))) := dEq_enc enc_drD (by decide) _ _
@[simp] theorem ne_dr : dNe (drD ts) (drD us) = some (.bool (!decide (ts = us))) := dNe_enc enc_drD (by decide) _ _
@[simp] theorem in_tI (a : Int) : dIn (.int a) (tI ns) = some (.bool (decide (a ∈ ns))) := (dIn_enc (enc_int 0) (by decide) a ns).1
@[simp] theorem notIn_tI (a : Int) : dNotIn (.int a) (tI ns) = some (.bool (!decide (a ∈ ns))) := (dNotIn_enc (enc_int 0) (by decide) a ns).1
@[simp] theorem in_lI (a : Int) : dIn (.int a) (.list (ns.map .int)) = some (.bool (decide (a ∈ ns))) := (dIn_enc (enc_int 0) (by decide) a ns).2
@[simp] theorem notIn_lI (a : Int) : dNotIn (.int a) (.list (ns.map .int)) = some (.bool (!decide (a ∈ ns))) := (dNotIn_enc (enc_int 0) (by decide) a ns).2
@[simp] theorem in_lT : dIn (tI ns) (.list (ts.map tI)) = some (.bool (decide (ns ∈ ts))) := (dIn_enc enc_tI (by decide) ns ts).2.trans (by congr)
@[simp] theorem notIn_lT : dNotIn (tI ns) (.list (ts.map tI)) = some (.bool (!decide (ns ∈ ts))) := (dNotIn_enc enc_tI (by decide) ns ts).2.trans (by congr)
@[simp] theorem in_tT : dIn (tI ns) (tT ts) = some (.bool (decide (ns ∈ ts))) := (dIn_enc enc_tI (by decide) ns ts).1.trans (by congr)
theorem add_tI (h : ns.length + ms.length ≤ 100000) : dAdd (tI ns) (tI ms) = some (tI (ns ++ ms)) := by
  show (if (ns.map PyData.int).length + (ms.map PyData.int).length ≤ 100000 then _ else _) = _
  rw [if_pos (by simpa using h), ← List.map_append]; rfl
theorem add_tT (h : ts.length + us.length ≤ 100000) : dAdd (tT ts) (tT us) = some (tT (ts ++ us)) := by
  show (if (ts.map tI).length + (us.map tI).length ≤ 100000 then _ else _) = _
  rw [if_pos (by simpa using h), ← List.map_append]; rfl
theorem cut_tI_to {k : Int} (h : 0 ≤ k) : dCut (tI ns) none (some k) = some (tI (ns.take k.toNat)) := by
  show some (PyData.tuple (cutD (ns.map PyData.int) none (some k))) = _
  rw [cutI_to h, ← List.map_take]; rfl
theorem cut_tI_from {k : Int} (h : 0 ≤ k) : dCut (tI ns) (some k) none = some (tI (ns.drop k.toNat)) := by
  show some (PyData.tuple (cutD (ns.map PyData.int) (some k) none)) = _
  rw [cutI_from h, ← List.map_drop]; rfl
theorem cut_tT_to {k : Int} (h : 0 ≤ k) : dCut (tT ts) none (some k) = some (tT (ts.take k.toNat)) := by
  show some (PyData.tuple (cutD (ts.map tI) none (some k))) = _
  rw [cutI_to h, ← List.map_take]; rfl
theorem cut_tT_from {k : Int} (h : 0 ≤ k) : dCut (tT ts) (some k) none = some (tT (ts.drop k.toNat)) := by
  show some (PyData.tuple (cutD (ts.map tI) (some k) none)) = _
  rw [cutI_from h, ← List.map_drop]; rfl
@[simp] theorem tup_lI : dTuple [.list (ns.map .int)] = some (tI ns) := rfl
@[simp] theorem tup_lT : dTuple [.list (ts.map tI)] = some (tT ts) := rfl
@[simp] theorem okT_tI : okT (tI ns) = true := rfl
@[simp] theorem okT_tT : okT (tT ts) = true := rfl
@[simp] theorem okT_dr : okT (drD ts) = true := rfl
@[simp] theorem sort_lI : dSortedL [.list (ns.map .int)] = some ((sortI ns).map .int) := by
  simp only [dSortedL, dItems, dInts_map, Option.bind_some, Option.map_some]
@[simp] theorem sort_tI : dSortedL [tI ns] = some ((sortI ns).map .int) := by
  simp only [dSortedL, items_tI, dInts_map, Option.bind_some, Option.map_some]
theorem setL_tI (h1 : ns.length ≤ 1000) (h2 : (setI ns).length < 64) : dSetL [tI ns] = some ((setI ns).map .int) := dSetL_ints h1 h2
@[simp] theorem list_lI : dListL [.list (ns.map .int)] = some (ns.map .int) := rfl
@[simp] theorem len_map_l {α : Type} (e : α → PyData) (xs : List α) : dLen [.list (xs.map e)] = some (.int xs.length) := by show some (PyData.int (xs.map e).length) = _; rw [List.length_map]
@[simp] theorem len_map_t {α : Type} (e : α → PyData) (xs : List α) : dLen [.tuple (xs.map e)] = some (.int xs.length) := by show some (PyData.int (xs.map e).length) = _; rw [List.length_map]
@[simp] theorem ix_map_l {α : Type} (e : α → PyData) (xs : List α) (i : Int) : dIx (.list (xs.map e)) (.int i) = (atI xs i).map e := atI_map _ _ _
@[simp] theorem ix_map_t {α : Type} (e : α → PyData) (xs : List α) (i : Int) : dIx (.tuple (xs.map e)) (.int i) = (atI xs i).map e := atI_map _ _ _
end
@[simp] theorem fold_tI (ns : List Int) : PyData.tuple (ns.map .int) = tI ns := rfl
@[simp] theorem fold_tT (ns : List (List Int)) : PyData.tuple (ns.map tI) = tT ns := rfl
@[simp] theorem fold_tIf {α : Type} (g : α → Int) (l : List α) : PyData.tuple (l.map fun a => .int (g a)) = tI (l.map g) := by unfold tI; rw [List.map_map]; rfl
@[simp] theorem fold_tIc {α : Type} (g : α → Int) (l : List α) : PyData.tuple (l.map (PyData.int ∘ g)) = tI (l.map g) := fold_tIf g l
@[simp] theorem fold_tTf {α : Type} (g : α → List Int) (l : List α) : PyData.tuple (l.map fun a => tI (g a)) = tT (l.map g) := by unfold tT; rw [List.map_map]; rfl
@[simp] theorem fold_tTc {α : Type} (g : α → List Int) (l : List α) : PyData.tuple (l.map (tI ∘ g)) = tT (l.map g) := fold_tTf g l
@[simp] theorem fold_dr (rows : List (List Int)) : PyData.tuple [.str "draft", tT rows] = drD rows := rfl
@[simp] theorem dTup_t (xs : List PyData) : dTup (.tuple xs) = some xs := rfl
@[simp] theorem dInt_b (b : Bool) : dInt [.bool b] = some (.int (if b = true then 1 else 0)) := by cases b <;> rfl
theorem ne_nil_enc {α : Type} [DecidableEq α] {n : Nat} {e : α → PyData} (h : IsEnc n e) (hn : n ≤ 59) (xs : List α) : dNe (.list (xs.map e)) (.list []) = some (.bool (!decide (xs = []))) := dNe_enc ((h.mono hn).lst) (by decide) xs []
theorem eq_nil_enc {α : Type} [DecidableEq α] {n : Nat} {e : α → PyData} (h : IsEnc n e) (hn : n ≤ 59) (xs : List α) : dEq (.list (xs.map e)) (.list []) = some (.bool (decide (xs = []))) := dEq_enc ((h.mono hn).lst) (by decide) xs []
@[simp] theorem ne_nil_lI (ns : List Int) : dNe (.list (ns.map .int)) (.list []) = some (.bool (!decide (ns = []))) := ne_nil_enc (enc_int 0) (by decide) ns
@[simp] theorem eq_nil_lI (ns : List Int) : dEq (.list (ns.map .int)) (.list []) = some (.bool (decide (ns = []))) := eq_nil_enc (enc_int 0) (by decide) ns
theorem eraseIdx_map {α β : Type} (e : α → β) : ∀ (xs : List α) (i : Nat), (xs.map e).eraseIdx i = (xs.eraseIdx i).map e
  | [], _ => rfl
  | _ :: _, 0 => rfl
  | x :: xs, i + 1 => by simp [eraseIdx_map e xs i]
theorem popAt_map {α : Type} (e : α → PyData) {xs : List α} {i : Int} (h1 : 0 ≤ i) (h2 : i < xs.length) (h3 : xs.length ≤ 100000) : mPopAt (xs.map e) [.int i] = some (e (xs[i.toNat]'(by omega)), (xs.eraseIdx i.toNat).map e) := by
  have h4 : i.toNat < xs.length := by omega
  have h5 : ixN (xs.map e).length i = some i.toNat := by unfold ixN; rw [List.length_map, if_pos h1, if_pos (by omega)]
  have h6 : mPop (xs.map e) [.int i] = (ixN (xs.map e).length i).bind fun j => ((xs.map e)[j]?).map fun y => (y, (xs.map e).eraseIdx j) := rfl
  unfold mPopAt
  rw [if_pos ⟨by simpa using h3, rfl⟩, h6, h5]
  simp [h4, eraseIdx_map]
@[simp] theorem ne_nil_nil : dNe (.list []) (.list []) = some (.bool false) := by simpa using ne_nil_lI []
@[simp] theorem eq_nil_nil : dEq (.list []) (.list []) = some (.bool true) := by simpa using eq_nil_lI []
theorem any_str (a : Str) : ∀ ss : List Str, ((ss.map PyData.str).any fun z => PyData.eqv z (.str a)) = decide (a ∈ ss)
  | [] => by simp
  | x :: xs => by
    rw [List.map_cons, List.any_cons, any_str a xs, Bool.eq_iff_iff]
    simp only [PyData.eqv, Bool.or_eq_true, decide_eq_true_eq, List.mem_cons, beq_iff_eq]
    exact or_congr eq_comm Iff.rfl
theorem in_strs {a : Str} {ss : List Str} (h : PyData.strOk a = true) (hs : ss.all PyData.strOk = true) : dIn (.str a) (.tuple (ss.map .str)) = some (.bool (decide (a ∈ ss))) ∧ dNotIn (.str a) (.tuple (ss.map .str)) = some (.bool (!decide (a ∈ ss))) := by
  have h2 : fitN 60 (.tuple (ss.map .str)) = true := by
    rw [fit_tuple, List.all_map, List.all_eq_true]
    intro x hx
    simpa [fit_str] using List.all_eq_true.mp hs x hx
  have h1 : fitN 60 (.str a) = true := by rw [fit_str]; exact h
  constructor
  · unfold dIn; rw [if_pos ⟨h1, h2⟩]; simp only [dItems, Option.map_some, any_str]
  · unfold dNotIn; rw [if_pos ⟨h1, h2⟩]; simp only [dItems, Option.map_some, any_str]
@[simp] theorem unb1_bor (s : SD) : unb1 s (bor s) = s := by cases s <;> rfl
theorem all_map {α : Type} (f : α → Bool) (xs : List α) : dAll [.list (xs.map fun x => .bool (f x))] = some (.bool (xs.all f)) := dAll_f f xs
theorem any_map {α : Type} (f : α → Bool) (xs : List α) : dAny [.list (xs.map fun x => .bool (f x))] = some (.bool (xs.any f)) := dAny_f f xs

/-! ### drafts -/
structure IsDr (rows : List (List Int)) (n : Nat) : Prop where
  r1 : 1 ≤ rows.length
  r2 : rows.length ≤ 12
  n1 : 1 ≤ n
  n2 : n ≤ 12
  len : ∀ r ∈ rows, r.length = n
  bit : ∀ r ∈ rows, ∀ x ∈ r, 0 ≤ x ∧ x < 2
/-- the columns of rows of n cells -/
def colsOf (n : Nat) (rows : List (List Int)) : List (List Int) := (upto n).map fun c => rows.map fun r => nth r c
@[simp] theorem colsOf_len (n : Nat) (rows : List (List Int)) : (colsOf n rows).length = n := by simp [colsOf]
theorem IsDr.ne {rows : List (List Int)} {n : Nat} (v : IsDr rows n) : ∃ r0 rs, rows = r0 :: rs := by
  cases rows with
  | nil => have := v.r1; simp at this
  | cons r0 rs => exact ⟨r0, rs, rfl⟩
theorem IsDr.at0 {rows : List (List Int)} {n : Nat} (v : IsDr rows n) : ∃ r0, atI rows 0 = some r0 ∧ r0.length = n ∧ r0 ∈ rows := by
  obtain ⟨r0, rs, rfl⟩ := v.ne
  exact ⟨r0, by simp [atI, ixN], v.len r0 (by simp), by simp⟩
theorem IsDr.row {rows : List (List Int)} {n : Nat} (v : IsDr rows n) {i : Int} (h1 : 0 ≤ i) (h2 : i < rows.length) : (nth rows i).length = n := v.len _ (nth_mem h1 h2)
theorem IsDr.cell {rows : List (List Int)} {n : Nat} (v : IsDr rows n) {r : List Int} (h : r ∈ rows) {j : Int} (h3 : 0 ≤ j) (h4 : j < n) : 0 ≤ nth r j ∧ nth r j < 2 :=
  v.bit r h _ (nth_mem h3 (by rw [v.len r h]; exact h4))
theorem IsDr.cols {rows : List (List Int)} {n : Nat} (v : IsDr rows n) : IsDr (colsOf n rows) rows.length := by
  refine ⟨by simpa using v.n1, by simpa using v.n2, v.r1, v.r2, fun r hr => ?_, fun r hr x hx => ?_⟩
  · obtain ⟨c, _, rfl⟩ := List.mem_map.mp hr
    simp
  · obtain ⟨c, hc, rfl⟩ := List.mem_map.mp hr
    obtain ⟨q, hq, rfl⟩ := List.mem_map.mp hx
    have := mem_upto.mp hc
    exact v.cell hq this.1 this.2
/-! ### comprehensions that draw -/
/-- the law's pot -/
abbrev P (a b : Int) : SD := .own true [.int a, .int b]
section
variable {vs : List Nat} {gs : GS} {fc : BS} {fd : DS} {xs : List PyData} {R : List SD} {a b : Int} {Q : List PyData × List SD → Prop} {α β : Type}
theorem WLc.pot (J : List PyData → List PyData → Prop) (h0 : J [] []) (h : ∀ pre x post ys a b, xs = pre ++ x :: post → J pre ys → WLS vs gs fc fd x (P a b :: R) fun q => ∃ a' b', q.2 = P a' b' :: R ∧ J (pre ++ [x]) (ys ++ q.1.toList))
    (k : ∀ ys a b, J xs ys → Q (ys, P a b :: R)) : WLc vs gs fc fd xs (P a b :: R) Q := by
  apply WLc.inv (fun pre ys S => ∃ a b, S = P a b :: R ∧ J pre ys) ⟨a, b, rfl, h0⟩
  · rintro pre x post ys S he ⟨a, b, rfl, hj⟩
    refine OV.use (h pre x post ys a b he hj) ?_
    rintro q ⟨a', b', h1, h2⟩
    exact ⟨a', b', h1, h2⟩
  · rintro ys S ⟨a, b, rfl, hj⟩
    exact k ys a b hj
/-- an item each, of a kind -/
theorem WLc.potE (e : α → PyData) (T : α → Prop) (h : ∀ x ∈ xs, ∀ a b, WLS vs gs fc fd x (P a b :: R) fun q => ∃ y a' b', q = (some (e y), P a' b' :: R) ∧ T y)
    (k : ∀ (ys : List α) a b, ys.length = xs.length → (∀ y ∈ ys, T y) → Q (ys.map e, P a b :: R)) : WLc vs gs fc fd xs (P a b :: R) Q := by
  apply WLc.pot (fun pre ys => ∃ zs : List α, ys = zs.map e ∧ zs.length = pre.length ∧ ∀ y ∈ zs, T y) ⟨[], rfl, rfl, by simp⟩
  · rintro pre x post ys a b he ⟨zs, rfl, hl, hz⟩
    refine OV.use (h x (by rw [he]; simp) a b) ?_
    rintro q ⟨y, a', b', rfl, hy⟩
    refine ⟨a', b', rfl, zs ++ [y], by simp, by simp [hl], fun z hz' => ?_⟩
    rcases List.mem_append.mp hz' with h' | h'
    · exact hz z h'
    · rw [List.mem_singleton.mp h']; exact hy
  · rintro ys a b ⟨zs, rfl, hl, hz⟩
    exact k zs a b hl hz
/-- some of the items -/
theorem WLc.potS {l : List α} (e : α → PyData) (h : ∀ x ∈ l, ∀ a b, WLS vs gs fc fd (e x) (P a b :: R) fun q => ∃ (c : Bool) (a' b' : Int), q = (if c = true then some (e x) else none, P a' b' :: R))
    (k : ∀ (ys : List α) a b, ys.Sublist l → Q (ys.map e, P a b :: R)) : WLc vs gs fc fd (l.map e) (P a b :: R) Q := by
  have key : ∀ (l : List α), (∀ x ∈ l, ∀ a b, WLS vs gs fc fd (e x) (P a b :: R) fun q => ∃ (c : Bool) (a' b' : Int), q = (if c = true then some (e x) else none, P a' b' :: R)) → ∀ a b, ∃ ys a' b', lcGo vs gs fc fd (l.map e) (P a b :: R) = some (List.map e ys, P a' b' :: R) ∧ ys.Sublist l := by
    intro l
    induction l with
    | nil => intro _ a b; exact ⟨[], a, b, rfl, .refl _⟩
    | cons x l ih =>
      intro h a b
      obtain ⟨q, h1, c, a1, b1, rfl⟩ := h x (by simp) a b
      obtain ⟨ys, a2, b2, h2, h3⟩ := ih (fun y hy => h y (List.mem_cons_of_mem _ hy)) a1 b1
      rw [List.map_cons, lcGo_cons, h1]
      simp only [Option.bind_some, h2, Option.map_some]
      cases c with
      | true => exact ⟨x :: ys, a2, b2, by simp, h3.cons₂ x⟩
      | false => exact ⟨ys, a2, b2, by simp, h3.cons x⟩
  obtain ⟨ys, a', b', h1, h2⟩ := key l h a b
  exact ⟨_, h1, k ys a' b' h2⟩
end
theorem sub_upto {n : Nat} {ys : List Int} (h : ys.Sublist (upto n)) : LotI n ys := ⟨List.Pairwise.sublist h (upto_pw n), fun k hk => mem_upto.mp (h.subset hk)⟩
theorem lot_len {m : Nat} {ns : List Int} (h : LotI m ns) : ns.length ≤ m := by
  have := setI_few (m := m) (ns := ns) fun k hk => by have := h.2 k hk; omega
  rwa [setI_self h.1] at this
theorem lot_lenZ {m : Int} {ns : List Int} (h : LotI m ns) (h0 : 0 ≤ m) : (ns.length : Int) ≤ m := by
  obtain ⟨k, rfl⟩ := Int.eq_ofNat_of_zero_le h0
  have := lot_len (m := k) h
  simpa using this
end DL

set_option Elab.async false
set_option linter.all false
set_option maxRecDepth 100000
set_option maxHeartbeats 4000000
/-! WL1: stepping through what part 14 .. 17 brought. -/
namespace DL
open PySem L2
/-- a statement with a tree -/
def WTr (f : TSem) (S : List SD) (tr : PyData) (Q : List SD × PyData → Prop) (d : Kt Q := .mk) : Prop := OV (f S tr) Q
def WTF (gs : GS) (fb : TSem) (xs : List PyData) (S : List SD) (tr : PyData) (Q : List SD × PyData → Prop) (d : Kt Q := .mk) : Prop := OV (tsForGo gs fb xs S tr) Q
section
variable {vs : List Nat} {fi : LS} {gs : GS} {fd fa fb : DS} {fl : LS} {S S' : List SD} {QL : List PyData × List SD → Prop} {QD : PyData × List SD → Prop} {QO : Out → Prop} {Q : List SD × PyData → Prop} {QS : List SD → Prop} {tr : PyData}
@[simp] theorem w_sdc : WP (sSDC vs fi gs fd) S QL = WP (sLC vs fi gs sYes fd) S fun p => OV (dInts p.1) fun ns => (setI ns).length < 64 ∧ QL ((setI ns).map .int, p.2) := by
  show DL0.OV ((sLC vs fi gs sYes fd S).bind fun p => (dInts p.1).bind fun ns => if (setI ns).length < 64 then some ((setI ns).map .int, p.2) else none) QL = DL0.OV (sLC vs fi gs sYes fd S) fun p => DL0.OV (dInts p.1) fun ns => (setI ns).length < 64 ∧ QL ((setI ns).map .int, p.2)
  simp only [DL0.OV_bind, DL0.OV_ite, DL0.OV_some, DL0.OV_none]
  congr 1
  funext p
  congr 1
  funext ns
  by_cases h : (setI ns).length < 64 <;> simp [h]
@[simp] theorem w_mLeaf (fl : LS) : WP (mLeaf fl) S QD = WP fl S fun p => QD (.list p.1, p.2) := OV_map _ _
@[simp] theorem w_mLC : WP (mLC vs fi gs fd) S QD = WP (sLC vs fi gs sYes fd) S fun p => QD (.list p.1, p.2) := OV_map _ _
@[simp] theorem w_mTwo (fa fb : DS) : WP (mTwo fa fb) S QD = WP fa S fun p => WP fb (borGo [] 0 p.2) fun q => QD (.list [p.1, q.1], unbGo [] 0 p.2 q.2) := by
  show DL0.OV ((fa S).bind fun p => (fb (borGo [] 0 p.2)).map fun q => (.list [p.1, q.1], unbGo [] 0 p.2 q.2)) QD = DL0.OV (fa S) fun p => DL0.OV (fb (borGo [] 0 p.2)) fun q => QD (.list [p.1, q.1], unbGo [] 0 p.2 q.2)
  simp only [DL0.OV_bind, DL0.OV_map]
@[simp] theorem w_tree (i : Nat) (fm : DS) (ft : TSem) (rest : SSem) : WP (sTree i fm ft rest) S QO = WP fm S fun p => i < p.2.length ∧ WTr ft (p.2.set i .un) p.1 fun q => WP rest (q.1.set i (.d q.2)) QO := by
  show DL0.OV ((fm S).bind fun p => if i < p.2.length then (ft (p.2.set i .un) p.1).bind fun q => rest (q.1.set i (.d q.2)) else none) QO = DL0.OV (fm S) fun p => i < p.2.length ∧ DL0.OV (ft (p.2.set i .un) p.1) fun q => DL0.OV (rest (q.1.set i (.d q.2))) QO
  simp only [DL0.OV_bind, DL0.OV_ite, DL0.OV_none]
  congr 1
  funext p
  by_cases h : i < p.2.length <;> simp [h]
@[simp] theorem wtr_seq (f g : TSem) : WTr (tsSeq f g) S tr Q = WTr f S tr fun p => WTr g p.1 p.2 Q := OV_bind _ _
@[simp] theorem wtr_x (f : List SD → Option (List SD)) : WTr (tsX f) S tr Q = WP f (borGo [] 0 S) fun S' => Q (unbK S S', tr) := OV_map _ _
@[simp] theorem w_xPar3 (i j l : Nat) (fs : AS) : WP (xPar3 i j l fs) S QS = WP (sTakeA fs) S fun p => OV (put3S i j l p.2 p.1) QS := OV_bind _ _
@[simp] theorem w_xAsg (fd : DS) (gs : GS) : WP (xAsg fd gs) S QS = WP fd S fun p => WG gs p.1 p.2 QS := OV_bind _ _
@[simp] theorem put3S_3 (i j l : Nat) (x y z : PyData) : put3S i j l S [x, y, z] = some (((S.set i (.d x)).set j (.d y)).set l (.d z)) := rfl
def slI : Option SD → Option Int
  | some (.d x) => dIntO x
  | _ => none
theorem slInt_eq (S : List SD) (j : Nat) : slInt S j = slI (S[j]?) := rfl
@[simp] theorem slI_d (x : PyData) : slI (some (.d x)) = dIntO x := rfl
@[simp] theorem wtr_put2 (i j1 j2 : Nat) (fd : DS) : WTr (tsPut2 i j1 j2 fd) S tr Q = WP fd (borGo [] 0 S) fun p => OV (slI ((unbGo [] 0 S p.2)[j1]?)) fun k => OV (slI ((unbGo [] 0 S p.2)[j2]?)) fun l => OV (put2 k l p.1 tr) fun tr' => Q (unbGo [] 0 S p.2, tr') := by
  show DL0.OV ((fd (borGo [] 0 S)).bind fun p => (slInt (unbGo [] 0 S p.2) j1).bind fun k => (slInt (unbGo [] 0 S p.2) j2).bind fun l => (put2 k l p.1 tr).map fun tr' => (unbGo [] 0 S p.2, tr')) Q = DL0.OV (fd (borGo [] 0 S)) _
  simp only [DL0.OV_bind, DL0.OV_map, slInt_eq]
  rfl
@[simp] theorem wtr_put3 (i j1 j2 j3 : Nat) (fd : DS) : WTr (tsPut3 i j1 j2 j3 fd) S tr Q = WP fd (borGo [] 0 S) fun p => OV (slI ((unbGo [] 0 S p.2)[j1]?)) fun k => OV (slI ((unbGo [] 0 S p.2)[j2]?)) fun l => OV (slI ((unbGo [] 0 S p.2)[j3]?)) fun m => OV (put3 k l m p.1 tr) fun tr' => Q (unbGo [] 0 S p.2, tr') := by
  show DL0.OV ((fd (borGo [] 0 S)).bind fun p => (slInt (unbGo [] 0 S p.2) j1).bind fun k => (slInt (unbGo [] 0 S p.2) j2).bind fun l => (slInt (unbGo [] 0 S p.2) j3).bind fun m => (put3 k l m p.1 tr).map fun tr' => (unbGo [] 0 S p.2, tr')) Q = DL0.OV (fd (borGo [] 0 S)) _
  simp only [DL0.OV_bind, DL0.OV_map, slInt_eq]
  rfl
@[simp] theorem wtr_for (fi : LS) (gs : GS) (fb : TSem) : WTr (tsFor fi gs fb) S tr Q = WP fi (borGo [] 0 S) fun p => WTF gs fb p.1 (unbGo [] 0 S p.2) tr Q := OV_bind _ _
@[simp] theorem unbK_cons (s s' : SD) (S S' : List SD) : unbK (s :: S) (s' :: S') = unbk1 s s' :: unbK S S' := rfl
@[simp] theorem unbK_nil : unbK [] [] = [] := rfl
@[simp] theorem unbk1_dd (s : SD) (x : PyData) : unbk1 s (.d x) = .d x := by cases s <;> rfl
@[simp] theorem unbk1_uu (s : SD) : unbk1 s .un = .un := by cases s <;> rfl
@[simp] theorem unbk1_oo (b : Bool) (x y : List PyData) : unbk1 (.own b x) (.own true y) = .own b y := rfl
theorem WTF.inv {gs : GS} {fb : TSem} {xs : List PyData} (I : List PyData → List SD → PyData → Prop) (h0 : I [] S tr) (h : ∀ pre x post S tr, xs = pre ++ x :: post → I pre S tr → WG gs x (borGo [] 0 S) fun S1 => WTr fb (unbK S S1) tr fun p => I (pre ++ [x]) p.1 p.2) (k : ∀ S tr, I xs S tr → Q (S, tr)) : WTF gs fb xs S tr Q := by
  have key : ∀ (post pre : List PyData) (S : List SD) (tr : PyData), xs = pre ++ post → I pre S tr → WTF gs fb post S tr Q := by
    intro post
    induction post with
    | nil =>
      intro pre S tr e i
      show OV (some (S, tr)) Q
      rw [OV_some]
      exact k S tr (by rw [e]; simpa using i)
    | cons x post ih =>
      intro pre S tr e i
      show OV ((gs x (borGo [] 0 S)).bind fun S1 => (fb (unbK S S1) tr).bind fun p => tsForGo gs fb post p.1 p.2) Q
      rw [OV_bind]
      refine OV.use (h pre x post S tr e i) fun S1 h1 => ?_
      rw [OV_bind]
      exact OV.use h1 fun p h2 => ih (pre ++ [x]) p.1 p.2 (by rw [e]; simp) h2
  exact key xs [] S tr rfl h0
theorem WTF.invA {gs : GS} {fb : TSem} {xs : List PyData} (I : List PyData → List SD → PyData → Prop) (h0 : I [] S tr) (h : ∀ pre x post S tr, xs = pre ++ x :: post → I pre S tr → WG gs x (borGo [] 0 S) fun S1 => WTr fb (unbK S S1) tr fun p => At (fun S => I (pre ++ [x]) S p.2) p.1) (k : ∀ S tr, I xs S tr → Q (S, tr)) : WTF gs fb xs S tr Q := WTF.inv I h0 h k
end
end DL

/-! ### the text -/
namespace PK81
open PySem PySem.Spec PyProof.Rows L2 DL
def topS (i : Nat) : Stmt := PySem.Challenge.pw_onecloth_k81_any_value_as_full_picture_o.main.body.getD i (.Pass ⟨0, 0, 0, 0⟩)
abbrev s__law_sides : Stmt := topS 36
theorem sc__law_sides : FnScope ["draft", "dyeing", "front", "back", "weft", "row", "near", "far", "warp", "one", "own", "other"] ["draft", "dyeing"] (defScope s__law_sides) := ⟨rfl, rfl, rfl, by decide +kernel, rfl, by decide +kernel, by decide +kernel⟩
abbrev s__law_draw : Stmt := topS 31
theorem sc__law_draw : FnScope ["pot", "many", "digit"] ["pot", "many"] (defScope s__law_draw) := ⟨rfl, rfl, rfl, by decide +kernel, rfl, by decide +kernel, by decide +kernel⟩
abbrev s__law_colours : Stmt := topS 35
theorem sc__law_colours : FnScope ["pot", "many", "most", "strand"] ["pot", "many", "most"] (defScope s__law_colours) := ⟨rfl, rfl, rfl, by decide +kernel, rfl, by decide +kernel, by decide +kernel⟩
abbrev s__law_draft : Stmt := topS 34
theorem sc__law_draft : FnScope ["pot", "wefts", "warps", "weft", "warp"] ["pot", "wefts", "warps"] (defScope s__law_draft) := ⟨rfl, rfl, rfl, by decide +kernel, rfl, by decide +kernel, by decide +kernel⟩
abbrev s__law_both : Stmt := topS 38
theorem sc__law_both : FnScope ["pot", "most", "wrong", "wefts", "warps", "few", "dyeing", "front", "back", "rows", "turn", "side", "weft", "warp", "row"] ["pot", "most", "wrong"] (defScope s__law_both) := ⟨rfl, rfl, rfl, by decide +kernel, rfl, by decide +kernel, by decide +kernel⟩
abbrev s__law_pictures : Stmt := topS 45
theorem sc__law_pictures : FnScope ["pot", "front", "back", "weft", "warp", "found", "odd", "row"] ["pot"] (defScope s__law_pictures) := ⟨rfl, rfl, rfl, by decide +kernel, rfl, by decide +kernel, by decide +kernel⟩
abbrev s_is_integer : Stmt := topS 1
theorem sc_is_integer : FnScope ["value"] ["value"] (defScope s_is_integer) := ⟨rfl, rfl, rfl, by decide +kernel, rfl, by decide +kernel, by decide +kernel⟩
abbrev s_is_within : Stmt := topS 2
theorem sc_is_within : FnScope ["value", "least", "most"] ["value", "least", "most"] (defScope s_is_within) := ⟨rfl, rfl, rfl, by decide +kernel, rfl, by decide +kernel, by decide +kernel⟩
abbrev s_is_full_value : Stmt := topS 16
theorem sc_is_full_value : FnScope ["value", "row", "one"] ["value"] (defScope s_is_full_value) := ⟨rfl, rfl, rfl, by decide +kernel, rfl, by decide +kernel, by decide +kernel⟩
abbrev s_want_full : Stmt := topS 17
theorem sc_want_full : FnScope ["picture"] ["picture"] (defScope s_want_full) := ⟨rfl, rfl, rfl, by decide +kernel, rfl, by decide +kernel, by decide +kernel⟩
abbrev s_want_both : Stmt := topS 18
theorem sc_want_both : FnScope ["front", "back"] ["front", "back"] (defScope s_want_both) := ⟨rfl, rfl, rfl, by decide +kernel, rfl, by decide +kernel, by decide +kernel⟩
abbrev s_other_of : Stmt := topS 20
theorem sc_other_of : FnScope ["both", "colour"] ["both", "colour"] (defScope s_other_of) := ⟨rfl, rfl, rfl, by decide +kernel, rfl, by decide +kernel, by decide +kernel⟩
abbrev s_both_at : Stmt := topS 19
theorem sc_both_at : FnScope ["front", "back", "weft", "warp"] ["front", "back", "weft", "warp"] (defScope s_both_at) := ⟨rfl, rfl, rfl, by decide +kernel, rfl, by decide +kernel, by decide +kernel⟩
abbrev s_told_by : Stmt := topS 22
theorem sc_told_by : FnScope ["front", "back", "colour", "wefts", "warps", "weft", "warp"] ["front", "back", "colour"] (defScope s_told_by) := ⟨rfl, rfl, rfl, by decide +kernel, rfl, by decide +kernel, by decide +kernel⟩
abbrev s_are_both : Stmt := topS 21
theorem sc_are_both : FnScope ["both", "one", "other"] ["both", "one", "other"] (defScope s_are_both) := ⟨rfl, rfl, rfl, by decide +kernel, rfl, by decide +kernel, by decide +kernel⟩
abbrev s_is_wrong_at : Stmt := topS 23
theorem sc_is_wrong_at : FnScope ["front", "back", "told", "weft", "warp"] ["front", "back", "told", "weft", "warp"] (defScope s_is_wrong_at) := ⟨rfl, rfl, rfl, by decide +kernel, rfl, by decide +kernel, by decide +kernel⟩
abbrev s_first_wrong : Stmt := topS 24
theorem sc_first_wrong : FnScope ["front", "back", "colour", "told", "weft", "warp"] ["front", "back", "colour"] (defScope s_first_wrong) := ⟨rfl, rfl, rfl, by decide +kernel, rfl, by decide +kernel, by decide +kernel⟩
abbrev s_starts_of : Stmt := topS 25
theorem sc_starts_of : FnScope ["front", "back", "colour"] ["front", "back"] (defScope s_starts_of) := ⟨rfl, rfl, rfl, by decide +kernel, rfl, by decide +kernel, by decide +kernel⟩
abbrev s_side_bar : Stmt := topS 27
theorem sc_side_bar : FnScope ["front", "back", "found", "colour", "cell"] ["front", "back"] (defScope s_side_bar) := ⟨rfl, rfl, rfl, by decide +kernel, rfl, by decide +kernel, by decide +kernel⟩
abbrev s_is_list : Stmt := topS 4
theorem sc_is_list : FnScope ["value"] ["value"] (defScope s_is_list) := ⟨rfl, rfl, rfl, by decide +kernel, rfl, by decide +kernel, by decide +kernel⟩
abbrev s_is_tuple : Stmt := topS 5
theorem sc_is_tuple : FnScope ["value", "many"] ["value", "many"] (defScope s_is_tuple) := ⟨rfl, rfl, rfl, by decide +kernel, rfl, by decide +kernel, by decide +kernel⟩
abbrev s_many_warps : Stmt := topS 11
theorem sc_many_warps : FnScope ["draft"] ["draft"] (defScope s_many_warps) := ⟨rfl, rfl, rfl, by decide +kernel, rfl, by decide +kernel, by decide +kernel⟩
abbrev s_many_wefts : Stmt := topS 12
theorem sc_many_wefts : FnScope ["draft"] ["draft"] (defScope s_many_wefts) := ⟨rfl, rfl, rfl, by decide +kernel, rfl, by decide +kernel, by decide +kernel⟩
abbrev s_is_cell_of : Stmt := topS 13
theorem sc_is_cell_of : FnScope ["draft", "value"] ["draft", "value"] (defScope s_is_cell_of) := ⟨rfl, rfl, rfl, by decide +kernel, rfl, by decide +kernel, by decide +kernel⟩
abbrev s_is_count : Stmt := topS 3
theorem sc_is_count : FnScope ["value"] ["value"] (defScope s_is_count) := ⟨rfl, rfl, rfl, by decide +kernel, rfl, by decide +kernel, by decide +kernel⟩
abbrev s_is_side_bar : Stmt := topS 28
theorem sc_is_side_bar : FnScope ["front", "back", "value", "one"] ["front", "back", "value"] (defScope s_is_side_bar) := ⟨rfl, rfl, rfl, by decide +kernel, rfl, by decide +kernel, by decide +kernel⟩
abbrev s__law_is_full : Stmt := topS 39
theorem sc__law_is_full : FnScope ["value", "row", "one"] ["value"] (defScope s__law_is_full) := ⟨rfl, rfl, rfl, by decide +kernel, rfl, by decide +kernel, by decide +kernel⟩
abbrev s__law_pick : Stmt := topS 32
theorem sc__law_pick : FnScope ["pot", "some"] ["pot", "some"] (defScope s__law_pick) := ⟨rfl, rfl, rfl, by decide +kernel, rfl, by decide +kernel, by decide +kernel⟩
abbrev s__law_bent : Stmt := topS 44
theorem sc__law_bent : FnScope ["pot", "front", "told", "at", "colour", "cell", "odd", "late", "some", "found"] ["pot", "front", "told"] (defScope s__law_bent) := ⟨rfl, rfl, rfl, by decide +kernel, rfl, by decide +kernel, by decide +kernel⟩
abbrev s__law_other : Stmt := topS 40
theorem sc__law_other : FnScope ["near", "far", "colour"] ["near", "far", "colour"] (defScope s__law_other) := ⟨rfl, rfl, rfl, by decide +kernel, rfl, by decide +kernel, by decide +kernel⟩
abbrev s__law_is_wrong : Stmt := topS 41
theorem sc__law_is_wrong : FnScope ["front", "back", "colour", "cell", "weft", "warp", "first", "own", "late"] ["front", "back", "colour", "cell"] (defScope s__law_is_wrong) := ⟨rfl, rfl, rfl, by decide +kernel, rfl, by decide +kernel, by decide +kernel⟩
abbrev s__law_is_cell : Stmt := topS 42
theorem sc__law_is_cell : FnScope ["front", "value", "one"] ["front", "value"] (defScope s__law_is_cell) := ⟨rfl, rfl, rfl, by decide +kernel, rfl, by decide +kernel, by decide +kernel⟩
abbrev s__law_is_bar : Stmt := topS 43
theorem sc__law_is_bar : FnScope ["front", "back", "value", "due", "colour", "cell", "one"] ["front", "back", "value"] (defScope s__law_is_bar) := ⟨rfl, rfl, rfl, by decide +kernel, rfl, by decide +kernel, by decide +kernel⟩
abbrev s_is_full : Stmt := topS 26
theorem sc_is_full : FnScope ["value"] ["value"] (defScope s_is_full) := ⟨rfl, rfl, rfl, by decide +kernel, rfl, by decide +kernel, by decide +kernel⟩
abbrev s__law_right : Stmt := topS 46
theorem sc__law_right : FnScope ["pot", "value", "due", "shown", "front", "back", "base", "values", "weft", "is_due", "named", "colour", "turn", "warp"] ["pot"] (defScope s__law_right) := ⟨rfl, rfl, rfl, by decide +kernel, rfl, by decide +kernel, by decide +kernel⟩
abbrev s__law_pot : Stmt := topS 30
theorem sc__law_pot : FnScope ["script", "k", "cell"] ["script", "k"] (defScope s__law_pot) := ⟨rfl, rfl, rfl, by decide +kernel, rfl, by decide +kernel, by decide +kernel⟩
abbrev s_law : Stmt := topS 47
theorem sc_law : FnScope ["script", "k"] ["script"] (defScope s_law) := ⟨rfl, rfl, rfl, by decide +kernel, rfl, by decide +kernel, by decide +kernel⟩
abbrev k_MOST : PyData := (.int 12)
abbrev k_MOST_COLOUR : PyData := (.int 7)
/-- what the module's names are -/
structure Md (K : PySem.W.Frag) (mg : Str → Option Value) : Prop where
  z_abs : mg "abs" = none
  z_all : mg "all" = none
  z_any : mg "any" = none
  z_bool : mg "bool" = none
  z_divmod : mg "divmod" = none
  z_enumerate : mg "enumerate" = none
  z_int : mg "int" = none
  z_isinstance : mg "isinstance" = none
  z_len : mg "len" = none
  z_list : mg "list" = none
  z_max : mg "max" = none
  z_min : mg "min" = none
  z_range : mg "range" = none
  z_repr : mg "repr" = none
  z_sorted : mg "sorted" = none
  z_tuple : mg "tuple" = none
  c_MOST : GK K mg "MOST" (.int 12) k_MOST
  c_MOST_COLOUR : GK K mg "MOST_COLOUR" (.int 7) k_MOST_COLOUR
/-! ### the mirrors -/
noncomputable def m__law_sides : Fn := defn 12 (sSeq (sPar 2 3 (vL (sLst sNil)) (vL (sLst sNil))) (sSeq (sFor (sArgI enumI (sCons (sBin dIx (sVar 0) (sC (.int 1))) sNil)) (gsTup 2 (gsCons (gsName 4) (gsCons (gsName 5) gsNil))) (sSeq (sPar 6 7 (vL (sLst sNil)) (vL (sLst sNil))) (sSeq (sFor (sArgI enumI (sCons (sVar 5) sNil)) (gsTup 2 (gsCons (gsName 8) (gsCons (gsName 9) gsNil))) (sSeq (sPar 10 11 (vD (sTake (sBin dIx (sBin dIx (sVar 1) (sC (.int 0))) (sVar 8)))) (vD (sTake (sBin dIx (sBin dIx (sVar 1) (sC (.int 1))) (sVar 4))))) (sSeq (sDrop (sMeth 6 mAppend (sCons (sIf (sTest (sBin dEq (sVar 9) (sC (.int 1)))) (sVar 10) (sVar 11)) sNil))) (sDrop (sMeth 7 mAppend (sCons (sIf (sTest (sBin dEq (sVar 9) (sC (.int 1)))) (sVar 11) (sVar 10)) sNil)))))) (sSeq (sDrop (sMeth 2 mAppend (sCons (sCB dTuple (sCons (sVar 6) sNil)) sNil))) (sDrop (sMeth 3 mAppend (sCons (sCB dTuple (sCons (sVar 7) sNil)) sNil))))))) (sRetVS (vD (sTake (sTup (sCons (sCB dTuple (sCons (sVar 2) sNil)) (sCons (sCB dTuple (sCons (sVar 3) sNil)) sNil))))))))
noncomputable def m__law_draw : Fn := defn 3 (sSeq (sIf (sTest (sBin dGt (sBin dIx (sVar 0) (sC (.int 0))) (sC (.int 0)))) (sSeq (sAsg (sTake (sCB dDivmod (sCons (sBin dIx (sVar 0) (sC (.int 0))) (sCons (sVar 1) sNil)))) (gsTup 2 (gsCons (gsSub 0 (sC (.int 0))) (gsCons (gsName 2) gsNil)))) (sRetVS (vD (sTake (sVar 2))))) sNext) (sSeq (sAsg (sTake (sBin dMod (sCB dInt (sCons (sBin dAdd (sBin dMulX (sBin dIx (sVar 0) (sC (.int 1))) (sC (.int 39373))) (sC (.int 1087))) sNil)) (sC (.int 2147483587)))) (gsSub 0 (sC (.int 1)))) (sRetVS (vD (sTake (sBin dMod (sCB dInt (sCons (sBin dDiv (sBin dMod (sCB dInt (sCons (sBin dMulX (sBin dIx (sVar 0) (sC (.int 1))) (sBin dIx (sVar 0) (sC (.int 1)))) sNil)) (sC (.int 2147483563))) (sC (.int 19))) sNil)) (sVar 1)))))))
noncomputable def m__law_colours : Fn := defn 4 (sRetVS (vD (sTake (sCB dTuple (sCons (sKeep (sLC [3] (sArgI rngI (sCons (sVar 1) sNil)) (gsName 3) sYes (sTake (sCall 2 m__law_draw (sCons (sVar 0) (sCons (sVar 2) sNil)))))) sNil)))))
noncomputable def m__law_draft : Fn := defn 5 (sRetVS (vD (sTake (sTup (sCons (sC (.str "draft")) (sCons (sCB dTuple (sCons (sKeep (sLC [3] (sArgI rngI (sCons (sVar 1) sNil)) (gsName 3) sYes (sTake (sCB dTuple (sCons (sKeep (sLC [4] (sArgI rngI (sCons (sVar 2) sNil)) (gsName 4) sYes (sTake (sCall 2 m__law_draw (sCons (sVar 0) (sCons (sC (.int 2)) sNil)))))) sNil))))) sNil)) sNil))))))
noncomputable def m__law_both : Fn := defn 15 (sSeq (sPar 3 4 (vD (sTake (sBin dAdd (sC (.int 1)) (sCall 2 m__law_draw (sCons (sVar 0) (sCons (sVar 1) sNil)))))) (vD (sTake (sBin dAdd (sC (.int 1)) (sCall 2 m__law_draw (sCons (sVar 0) (sCons (sVar 1) sNil))))))) (sSeq (sSetV (vD (sTake (sBin dAdd (sC (.int 1)) (sCall 2 m__law_draw (sCons (sVar 0) (sCons (sC (.int 4)) sNil)))))) 5) (sSeq (sSetV (vD (sTake (sTup (sCons (sCall 3 m__law_colours (sCons (sVar 0) (sCons (sVar 4) (sCons (sVar 5) sNil)))) (sCons (sCall 3 m__law_colours (sCons (sVar 0) (sCons (sVar 3) (sCons (sVar 5) sNil)))) sNil))))) 6) (sSeq (sAsg (sTake (sCall 2 m__law_sides (sCons (sCall 3 m__law_draft (sCons (sVar 0) (sCons (sVar 3) (sCons (sVar 4) sNil)))) (sCons (sVar 6) sNil)))) (gsTup 2 (gsCons (gsName 7) (gsCons (gsName 8) gsNil)))) (sTree 9 (mTwo (mLC [14] (sSeqI (sTake (sVar 7))) (gsName 14) (mLeaf (sCBL dListL (sCons (sVar 14) sNil)))) (mLC [14] (sSeqI (sTake (sVar 8))) (gsName 14) (mLeaf (sCBL dListL (sCons (sVar 14) sNil))))) (tsFor (sArgI rngI (sCons (sCall 2 m__law_draw (sCons (sVar 0) (sCons (sBin dAdd (sVar 2) (sC (.int 1))) sNil))) sNil)) (gsName 10) (tsSeq (tsX (xPar3 11 12 13 (sCons (sCall 2 m__law_draw (sCons (sVar 0) (sCons (sC (.int 2)) sNil))) (sCons (sCall 2 m__law_draw (sCons (sVar 0) (sCons (sVar 3) sNil))) (sCons (sCall 2 m__law_draw (sCons (sVar 0) (sCons (sVar 4) sNil))) sNil))))) (tsPut3 9 11 12 13 (sTake (sCall 2 m__law_draw (sCons (sVar 0) (sCons (sBin dAdd (sVar 5) (sC (.int 1))) sNil))))))) (sRetVS (vD (sTake (sTup (sCons (sCB dTuple (sCons (sKeep (sLC [14] (sSeqI (sTake (sBin dIx (sVar 9) (sC (.int 0))))) (gsName 14) sYes (sTake (sCB dTuple (sCons (sVar 14) sNil))))) sNil)) (sCons (sCB dTuple (sCons (sKeep (sLC [14] (sSeqI (sTake (sBin dIx (sVar 9) (sC (.int 1))))) (gsName 14) sYes (sTake (sCB dTuple (sCons (sVar 14) sNil))))) sNil)) sNil)))))))))))
noncomputable def m__law_pictures : Fn := defn 8 (sSeq (sAsg (sTake (sCall 3 m__law_both (sCons (sVar 0) (sCons (sC (.int 4)) (sCons (sC (.int 2)) sNil))))) (gsTup 2 (gsCons (gsName 1) (gsCons (gsName 2) gsNil)))) (sSeq (sPar 3 4 (vD (sTake (sCall 2 m__law_draw (sCons (sVar 0) (sCons (sCB dLen (sCons (sVar 1) sNil)) sNil))))) (vD (sTake (sCall 2 m__law_draw (sCons (sVar 0) (sCons (sCB dLen (sCons (sBin dIx (sVar 1) (sC (.int 0))) sNil)) sNil)))))) (sSeq (sSetV (vL (sLst (sCons (sVar 1) (sCons (sVar 2) (sCons (sKeep (sCBL dListL (sCons (sVar 1) sNil))) (sCons (sTup sNil) (sCons (sKeep (sLst sNil)) (sCons (sC .none) (sCons (sC (.int 0)) (sCons (sC (.str "")) (sCons sDict0 (sCons (sTup (sCons (sTup sNil) sNil)) (sCons (sTup (sCons (sVar 1) sNil)) (sCons (sBin dIx (sVar 1) (sC (.int 0))) (sCons (sBin dMulX (sVar 1) (sC (.int 12))) sNil))))))))))))))) 5) (sSeq (sDrop (sMeth 5 mAppend (sCons (sTup (sCons (sBin dMulX (sBin dIx (sVar 1) (sC (.int 0))) (sC (.int 12))) sNil)) sNil))) (sSeq (sFor (sSeqI (sTake (sKeep (sLst (sCons (sC .none) (sCons (sC (.bool true)) (sCons (sUn dNeg (sC (.int 1))) (sCons (sC (.int 8)) (sCons (sC (.int 7)) (sCons (sC (.str "1")) (sCons (sTup (sCons (sC (.int 1)) sNil)) sNil))))))))))) (gsName 6) (sSeq (sSetV (vD (sTake (sBin dAdd (sBin dAdd (sSlice (sBin dIx (sVar 1) (sVar 3)) sNoPart (sPart (sVar 4))) (sTup (sCons (sVar 6) sNil))) (sSlice (sBin dIx (sVar 1) (sVar 3)) (sPart (sBin dAdd (sVar 4) (sC (.int 1)))) sNoPart)))) 7) (sDrop (sMeth 5 mAppend (sCons (sBin dAdd (sBin dAdd (sSlice (sVar 1) sNoPart (sPart (sVar 3))) (sTup (sCons (sVar 7) sNil))) (sSlice (sVar 1) (sPart (sBin dAdd (sVar 3) (sC (.int 1)))) sNoPart)) sNil))))) (sSeq (sFor (sSeqI (sTake (sKeep (sLst (sCons (sTup sNil) (sCons (sSlice (sBin dIx (sVar 1) (sVar 3)) (sPart (sC (.int 1))) sNoPart) (sCons (sBin dAdd (sBin dIx (sVar 1) (sVar 3)) (sTup (sCons (sC (.int 1)) sNil))) (sCons (sKeep (sCBL dListL (sCons (sBin dIx (sVar 1) (sVar 3)) sNil))) (sCons (sC .none) sNil))))))))) (gsName 7) (sDrop (sMeth 5 mAppend (sCons (sBin dAdd (sBin dAdd (sSlice (sVar 1) sNoPart (sPart (sVar 3))) (sTup (sCons (sVar 7) sNil))) (sSlice (sVar 1) (sPart (sBin dAdd (sVar 3) (sC (.int 1)))) sNoPart)) sNil)))) (sRetV 5)))))))
noncomputable def m_is_integer : Fn := defn 1 (sRetVS (vD (sTake (sAndV (sIsi .int (sVar 0)) (sNotV (sIsi .bool (sVar 0)))))))
noncomputable def m_is_within : Fn := defn 3 (sRetVS (vD (sTake (sAndV (sCall 1 m_is_integer (sCons (sVar 0) sNil)) (sChain dLe dLe (sVar 1) (sVar 0) (sVar 2))))))
noncomputable def m_is_full_value : Fn := defn 3 (sSeq (sIf (sOr (sNot (sTest (sIsi .tuple (sVar 0)))) (sNot (sTest (sChain dLe dLe (sC (.int 1)) (sCB dLen (sCons (sVar 0) sNil)) (sC (.int 12)))))) (sRetVS (vD (sTake (sC (.bool false))))) sNext) (sSeq (sIf (sNot (sTest (sCB dAll (sCons (sKeep (sLC [1] (sSeqI (sTake (sVar 0))) (gsName 1) sYes (sTake (sIsi .tuple (sVar 1))))) sNil)))) (sRetVS (vD (sTake (sC (.bool false))))) sNext) (sSeq (sIf (sOr (sNot (sTest (sChain dLe dLe (sC (.int 1)) (sCB dLen (sCons (sBin dIx (sVar 0) (sC (.int 0))) sNil)) (sC (.int 12))))) (sTest (sCB dAny (sCons (sKeep (sLC [1] (sSeqI (sTake (sVar 0))) (gsName 1) sYes (sTake (sBin dNe (sCB dLen (sCons (sVar 1) sNil)) (sCB dLen (sCons (sBin dIx (sVar 0) (sC (.int 0))) sNil)))))) sNil)))) (sRetVS (vD (sTake (sC (.bool false))))) sNext) (sRetVS (vD (sTake (sCB dAll (sCons (sKeep (sLC [1] (sSeqI (sTake (sVar 0))) (gsName 1) sYes (sTake (sCB dAll (sCons (sKeep (sLC [2] (sSeqI (sTake (sVar 1))) (gsName 2) sYes (sTake (sCall 3 m_is_within (sCons (sVar 2) (sCons (sC (.int 0)) (sCons (sC (.int 7)) sNil))))))) sNil))))) sNil))))))))
noncomputable def m_want_full : Fn := defn 1 (sIf (sNot (sTest (sCall 1 m_is_full_value (sCons (sVar 0) sNil)))) sNever sNext)
noncomputable def m_want_both : Fn := defn 2 (sSeq (sDrop (sCall 1 m_want_full (sCons (sVar 0) sNil))) (sIf (sOr (sNot (sTest (sCall 1 m_is_full_value (sCons (sVar 1) sNil)))) (sOr (sTest (sBin dNe (sCB dLen (sCons (sVar 1) sNil)) (sCB dLen (sCons (sVar 0) sNil)))) (sTest (sBin dNe (sCB dLen (sCons (sBin dIx (sVar 1) (sC (.int 0))) sNil)) (sCB dLen (sCons (sBin dIx (sVar 0) (sC (.int 0))) sNil)))))) sNever sNext))
noncomputable def m_other_of : Fn := defn 2 (sSeq (sIf (sOr (sTest (sBin dIs (sVar 1) (sC .none))) (sTest (sBin dNotIn (sVar 1) (sVar 0)))) (sRetVS (vD (sTake (sC .none)))) sNext) (sRetVS (vD (sTake (sIf (sTest (sBin dEq (sVar 1) (sBin dIx (sVar 0) (sC (.int 0))))) (sBin dIx (sVar 0) (sC (.int 1))) (sBin dIx (sVar 0) (sC (.int 0))))))))
noncomputable def m_both_at : Fn := defn 4 (sRetVS (vD (sTake (sTup (sCons (sBin dIx (sBin dIx (sVar 0) (sVar 2)) (sVar 3)) (sCons (sBin dIx (sBin dIx (sVar 1) (sVar 2)) (sVar 3)) sNil))))))
noncomputable def m_told_by : Fn := defn 7 (sSeq (sSetV (vD (sTake (sKeep (sLC [5] (sArgI rngI (sCons (sCB dLen (sCons (sVar 0) sNil)) sNil)) (gsName 5) sYes (sTake (sCall 2 m_other_of (sCons (sCall 4 m_both_at (sCons (sVar 0) (sCons (sVar 1) (sCons (sVar 5) (sCons (sC (.int 0)) sNil))))) (sCons (sVar 2) sNil)))))))) 3) (sSeq (sSetV (vLC true (sLC [6] (sArgI rngI (sCons (sC (.int 1)) (sCons (sCB dLen (sCons (sBin dIx (sVar 0) (sC (.int 0))) sNil)) sNil))) (gsName 6) sYes (sTake (sCall 2 m_other_of (sCons (sCall 4 m_both_at (sCons (sVar 0) (sCons (sVar 1) (sCons (sC (.int 0)) (sCons (sVar 6) sNil))))) (sCons (sBin dIx (sVar 3) (sC (.int 0))) sNil)))))) 4) (sRetVS (vD (sTake (sTup (sCons (sCB dTuple (sCons (sBin dAdd (sKeep (sLst (sCons (sVar 2) sNil))) (sVar 4)) sNil)) (sCons (sCB dTuple (sCons (sVar 3) sNil)) sNil))))))))
noncomputable def m_are_both : Fn := defn 3 (sRetVS (vD (sTake (sBin dIn (sVar 0) (sTup (sCons (sTup (sCons (sVar 1) (sCons (sVar 2) sNil))) (sCons (sTup (sCons (sVar 2) (sCons (sVar 1) sNil))) sNil)))))))
noncomputable def m_is_wrong_at : Fn := defn 5 (sSeq (sIf (sTest (sBin dEq (sVar 4) (sC (.int 0)))) (sRetVS (vD (sTake (sBin dIs (sBin dIx (sBin dIx (sVar 2) (sC (.int 1))) (sVar 3)) (sC .none))))) sNext) (sSeq (sIf (sTest (sBin dEq (sVar 3) (sC (.int 0)))) (sRetVS (vD (sTake (sBin dIs (sBin dIx (sBin dIx (sVar 2) (sC (.int 0))) (sVar 4)) (sC .none))))) sNext) (sSeq (sIf (sOr (sTest (sBin dIs (sBin dIx (sBin dIx (sVar 2) (sC (.int 0))) (sVar 4)) (sC .none))) (sTest (sBin dIs (sBin dIx (sBin dIx (sVar 2) (sC (.int 1))) (sVar 3)) (sC .none)))) (sRetVS (vD (sTake (sC (.bool false))))) sNext) (sRetVS (vD (sTake (sNotV (sCall 3 m_are_both (sCons (sCall 4 m_both_at (sCons (sVar 0) (sCons (sVar 1) (sCons (sVar 3) (sCons (sVar 4) sNil))))) (sCons (sBin dIx (sBin dIx (sVar 2) (sC (.int 0))) (sVar 4)) (sCons (sBin dIx (sBin dIx (sVar 2) (sC (.int 1))) (sVar 3)) sNil)))))))))))
noncomputable def m_first_wrong : Fn := defn 6 (sSeq (sSetV (vD (sTake (sCall 3 m_told_by (sCons (sVar 0) (sCons (sVar 1) (sCons (sVar 2) sNil)))))) 3) (sSeq (sFor (sArgI rngI (sCons (sCB dLen (sCons (sVar 0) sNil)) sNil)) (gsName 4) (sFor (sArgI rngI (sCons (sCB dLen (sCons (sBin dIx (sVar 0) (sC (.int 0))) sNil)) sNil)) (gsName 5) (sIf (sTest (sCall 5 m_is_wrong_at (sCons (sVar 0) (sCons (sVar 1) (sCons (sVar 3) (sCons (sVar 4) (sCons (sVar 5) sNil))))))) (sRetVS (vD (sTake (sTup (sCons (sVar 4) (sCons (sVar 5) sNil)))))) sNext))) (sRetVS (vD (sTake (sC .none))))))
noncomputable def m_starts_of : Fn := defn 3 (sRetVS (vL (sSDC [2] (sSeqI (sTake (sCall 4 m_both_at (sCons (sVar 0) (sCons (sVar 1) (sCons (sC (.int 0)) (sCons (sC (.int 0)) sNil))))))) (gsName 2) (sTake (sVar 2)))))
noncomputable def m_side_bar : Fn := defn 5 (sSeq (sDrop (sCall 2 m_want_both (sCons (sVar 0) (sCons (sVar 1) sNil)))) (sSeq (sSetV (vLC true (sLC [3] (sSeqI (sTake (sCall 2 m_starts_of (sCons (sVar 0) (sCons (sVar 1) sNil))))) (gsName 3) sYes (sTake (sTup (sCons (sVar 3) (sCons (sCall 3 m_first_wrong (sCons (sVar 0) (sCons (sVar 1) (sCons (sVar 3) sNil)))) sNil)))))) 2) (sRetVS (vD (sTake (sIf (sTest (sCB dAny (sCons (sKeep (sLC [3, 4] (sSeqI (sTake (sVar 2))) (gsTup 2 (gsCons (gsName 3) (gsCons (gsName 4) gsNil))) sYes (sTake (sBin dIs (sVar 4) (sC .none))))) sNil))) (sC .none) (sVar 2)))))))
noncomputable def m_is_list : Fn := defn 1 (sRetVS (vD (sTake (sIsi2 .list .tuple (sVar 0)))))
noncomputable def m_is_tuple : Fn := defn 2 (sRetVS (vD (sTake (sAndV (sIsi .tuple (sVar 0)) (sBin dEq (sCB dLen (sCons (sVar 0) sNil)) (sVar 1))))))
noncomputable def m_many_warps : Fn := defn 1 (sRetVS (vD (sTake (sCB dLen (sCons (sBin dIx (sBin dIx (sVar 0) (sC (.int 1))) (sC (.int 0))) sNil)))))
noncomputable def m_many_wefts : Fn := defn 1 (sRetVS (vD (sTake (sCB dLen (sCons (sBin dIx (sVar 0) (sC (.int 1))) sNil)))))
noncomputable def m_is_cell_of : Fn := defn 2 (sSeq (sIf (sOr (sNot (sTest (sCall 2 m_is_tuple (sCons (sVar 1) (sCons (sC (.int 2)) sNil))))) (sNot (sTest (sCall 3 m_is_within (sCons (sBin dIx (sVar 1) (sC (.int 0))) (sCons (sC (.int 0)) (sCons (sBin dSub (sCall 1 m_many_wefts (sCons (sVar 0) sNil)) (sC (.int 1))) sNil))))))) (sRetVS (vD (sTake (sC (.bool false))))) sNext) (sRetVS (vD (sTake (sCall 3 m_is_within (sCons (sBin dIx (sVar 1) (sC (.int 1))) (sCons (sC (.int 0)) (sCons (sBin dSub (sCall 1 m_many_warps (sCons (sVar 0) sNil)) (sC (.int 1))) sNil))))))))
noncomputable def m_is_count : Fn := defn 1 (sRetVS (vD (sTake (sAndV (sCall 1 m_is_integer (sCons (sVar 0) sNil)) (sBin dGe (sVar 0) (sC (.int 0)))))))
noncomputable def m_is_side_bar : Fn := defn 4 (sSeq (sDrop (sCall 2 m_want_both (sCons (sVar 0) (sCons (sVar 1) sNil)))) (sSeq (sIf (sOr (sNot (sTest (sCall 1 m_is_list (sCons (sVar 2) sNil)))) (sNot (sTest (sCB dAll (sCons (sKeep (sLC [3] (sSeqI (sTake (sVar 2))) (gsName 3) sYes (sTake (sAndV (sCall 2 m_is_tuple (sCons (sVar 3) (sCons (sC (.int 2)) sNil))) (sCall 1 m_is_count (sCons (sBin dIx (sVar 3) (sC (.int 0))) sNil)))))) sNil))))) (sRetVS (vD (sTake (sC (.bool false))))) sNext) (sSeq (sIf (sTest (sBin dNe (sKeep (sLC [3] (sSeqI (sTake (sVar 2))) (gsName 3) sYes (sTake (sBin dIx (sVar 3) (sC (.int 0)))))) (sCall 2 m_starts_of (sCons (sVar 0) (sCons (sVar 1) sNil))))) (sRetVS (vD (sTake (sC (.bool false))))) sNext) (sSeq (sIf (sNot (sTest (sCB dAll (sCons (sKeep (sLC [3] (sSeqI (sTake (sVar 2))) (gsName 3) sYes (sTake (sCall 2 m_is_cell_of (sCons (sTup (sCons (sC (.str "front")) (sCons (sVar 0) sNil))) (sCons (sBin dIx (sVar 3) (sC (.int 1))) sNil)))))) sNil)))) (sRetVS (vD (sTake (sC (.bool false))))) sNext) (sRetVS (vD (sTake (sCB dAll (sCons (sKeep (sLC [3] (sSeqI (sTake (sVar 2))) (gsName 3) sYes (sTake (sCall 5 m_is_wrong_at (sCons (sVar 0) (sCons (sVar 1) (sCons (sCall 3 m_told_by (sCons (sVar 0) (sCons (sVar 1) (sCons (sBin dIx (sVar 3) (sC (.int 0))) sNil)))) (sCons (sBin dIx (sBin dIx (sVar 3) (sC (.int 1))) (sC (.int 0))) (sCons (sBin dIx (sBin dIx (sVar 3) (sC (.int 1))) (sC (.int 1))) sNil))))))))) sNil)))))))))
noncomputable def m__law_is_full : Fn := defn 3 (sSeq (sIf (sOr (sNot (sTest (sIsi .tuple (sVar 0)))) (sNot (sTest (sChain dLe dLe (sC (.int 1)) (sCB dLen (sCons (sVar 0) sNil)) (sC (.int 12)))))) (sRetVS (vD (sTake (sC (.bool false))))) sNext) (sSeq (sIf (sNot (sTest (sCB dAll (sCons (sKeep (sLC [1] (sSeqI (sTake (sVar 0))) (gsName 1) sYes (sTake (sIsi .tuple (sVar 1))))) sNil)))) (sRetVS (vD (sTake (sC (.bool false))))) sNext) (sSeq (sIf (sNot (sTest (sCB dAll (sCons (sKeep (sLC [1] (sSeqI (sTake (sVar 0))) (gsName 1) sYes (sTake (sAndV (sChain dLe dLe (sC (.int 1)) (sCB dLen (sCons (sVar 1) sNil)) (sC (.int 12))) (sBin dEq (sCB dLen (sCons (sVar 1) sNil)) (sCB dLen (sCons (sBin dIx (sVar 0) (sC (.int 0))) sNil))))))) sNil)))) (sRetVS (vD (sTake (sC (.bool false))))) sNext) (sRetVS (vD (sTake (sCB dAll (sCons (sKeep (sLC [1] (sSeqI (sTake (sVar 0))) (gsName 1) sYes (sTake (sCB dAll (sCons (sKeep (sLC [2] (sSeqI (sTake (sVar 1))) (gsName 2) sYes (sTake (sBin dIn (sCB dRepr (sCons (sVar 2) sNil)) (sKeep (sLst (sCons (sC (.str "0")) (sCons (sC (.str "1")) (sCons (sC (.str "2")) (sCons (sC (.str "3")) (sCons (sC (.str "4")) (sCons (sC (.str "5")) (sCons (sC (.str "6")) (sCons (sC (.str "7")) sNil)))))))))))))) sNil))))) sNil))))))))
noncomputable def m__law_pick : Fn := defn 2 (sRetVS (vD (sTake (sBin dIx (sVar 1) (sCall 2 m__law_draw (sCons (sVar 0) (sCons (sCB dLen (sCons (sVar 1) sNil)) sNil)))))))
noncomputable def m__law_bent : Fn := defn 10 (sSeq (sSetV (vD (sTake (sCall 2 m__law_draw (sCons (sVar 0) (sCons (sCB dLen (sCons (sVar 2) sNil)) sNil))))) 3) (sSeq (sAsg (sTake (sBin dIx (sVar 2) (sVar 3))) (gsTup 2 (gsCons (gsName 4) (gsCons (gsName 5) gsNil)))) (sSeq (sSetV (vD (sTake (sCall 2 m__law_pick (sCons (sVar 0) (sCons (sKeep (sLst (sCons (sC .none) (sCons (sC (.bool true)) (sCons (sC (.int 0)) (sCons (sC (.int 7)) (sCons (sC (.str "1")) (sCons (sTup sNil) (sCons (sTup (sCons (sC (.int 0)) sNil)) (sCons (sKeep (sLst (sCons (sC (.int 0)) (sCons (sC (.int 0)) sNil)))) (sCons (sTup (sCons (sC (.int 0)) (sCons (sC (.int 0)) (sCons (sC (.int 0)) sNil)))) (sCons (sTup (sCons (sC (.bool true)) (sCons (sC (.int 0)) sNil))) (sCons (sTup (sCons (sC (.int 0)) (sCons (sUn dNeg (sC (.int 1))) sNil))) (sCons (sTup (sCons (sC (.int 99)) (sCons (sC (.int 0)) sNil))) sNil)))))))))))))) sNil))))) 6) (sSeq (sSetV (vD (sTake (sTup (sCons (sCall 2 m__law_draw (sCons (sVar 0) (sCons (sCB dLen (sCons (sVar 1) sNil)) sNil))) (sCons (sCall 2 m__law_draw (sCons (sVar 0) (sCons (sCB dLen (sCons (sBin dIx (sVar 1) (sC (.int 0))) sNil)) sNil))) sNil))))) 7) (sSeq (sSetV (vL (sLst (sCons (sTup (sCons (sVar 4) (sCons (sVar 7) sNil))) (sCons (sTup (sCons (sVar 4) (sCons (sVar 7) sNil))) (sCons (sTup (sCons (sCall 2 m__law_draw (sCons (sVar 0) (sCons (sC (.int 5)) sNil))) (sCons (sVar 5) sNil))) (sCons (sTup (sCons (sVar 4) (sCons (sVar 6) sNil))) (sCons (sTup (sCons (sVar 6) (sCons (sVar 5) sNil))) (sCons (sKeep (sLst (sCons (sVar 4) (sCons (sVar 5) sNil)))) sNil)))))))) 8) (sSeq (sDrop (sMeth 8 mAppend (sCons (sTup (sCons (sVar 4) sNil)) sNil))) (sSeq (sSetV (vD (sTake (sBin dAdd (sBin dAdd (sSlice (sVar 2) sNoPart (sPart (sVar 3))) (sKeep (sLst (sCons (sCall 2 m__law_pick (sCons (sVar 0) (sCons (sDat (sTake (sVar 8))) sNil))) sNil)))) (sSlice (sVar 2) (sPart (sBin dAdd (sVar 3) (sC (.int 1)))) sNoPart)))) 9) (sSeq (sSetV (vL (sLst (sCons (sVar 9) (sCons (sVar 9) (sCons (sVar 9) (sCons (sBin dAdd (sSlice (sVar 2) sNoPart (sPart (sVar 3))) (sSlice (sVar 2) (sPart (sBin dAdd (sVar 3) (sC (.int 1)))) sNoPart)) (sCons (sBin dAdd (sVar 2) (sSlice (sVar 2) sNoPart (sPart (sC (.int 1))))) (sCons (sUn dRev (sVar 2)) (sCons (sCB dTuple (sCons (sVar 2) sNil)) (sCons (sVar 6) sNil)))))))))) 8) (sRetVS (vD (sTake (sCall 2 m__law_pick (sCons (sVar 0) (sCons (sDat (sTake (sVar 8))) sNil))))))))))))))
noncomputable def m__law_other : Fn := defn 3 (sRetVS (vD (sTake (sIf (sTest (sBin dEq (sVar 2) (sVar 0))) (sVar 1) (sIf (sTest (sBin dEq (sVar 2) (sVar 1))) (sVar 0) (sC .none))))))
noncomputable def m__law_is_wrong : Fn := defn 9 (sSeq (sAsg (sTake (sVar 3)) (gsTup 2 (gsCons (gsName 4) (gsCons (gsName 5) gsNil)))) (sSeq (sSetV (vD (sTake (sCall 3 m__law_other (sCons (sBin dIx (sBin dIx (sVar 0) (sC (.int 0))) (sC (.int 0))) (sCons (sBin dIx (sBin dIx (sVar 1) (sC (.int 0))) (sC (.int 0))) (sCons (sVar 2) sNil)))))) 6) (sSeq (sSetV (vD (sTake (sCall 3 m__law_other (sCons (sBin dIx (sBin dIx (sVar 0) (sVar 4)) (sC (.int 0))) (sCons (sBin dIx (sBin dIx (sVar 1) (sVar 4)) (sC (.int 0))) (sCons (sVar 2) sNil)))))) 7) (sSeq (sIf (sTest (sBin dEq (sVar 5) (sC (.int 0)))) (sRetVS (vD (sTake (sBin dIs (sVar 7) (sC .none))))) sNext) (sSeq (sSetV (vD (sTake (sCall 3 m__law_other (sCons (sBin dIx (sBin dIx (sVar 0) (sC (.int 0))) (sVar 5)) (sCons (sBin dIx (sBin dIx (sVar 1) (sC (.int 0))) (sVar 5)) (sCons (sVar 6) sNil)))))) 8) (sSeq (sIf (sOr (sTest (sBin dEq (sVar 4) (sC (.int 0)))) (sOr (sTest (sBin dIs (sVar 7) (sC .none))) (sTest (sBin dIs (sVar 8) (sC .none))))) (sRetVS (vD (sTake (sAndV (sBin dEq (sVar 4) (sC (.int 0))) (sBin dIs (sVar 8) (sC .none)))))) sNext) (sRetVS (vD (sTake (sBin dNe (sKeep (sCBL dSortedL (sCons (sKeep (sLst (sCons (sVar 7) (sCons (sVar 8) sNil)))) sNil))) (sKeep (sCBL dSortedL (sCons (sKeep (sLst (sCons (sBin dIx (sBin dIx (sVar 0) (sVar 4)) (sVar 5)) (sCons (sBin dIx (sBin dIx (sVar 1) (sVar 4)) (sVar 5)) sNil)))) sNil)))))))))))))
noncomputable def m__law_is_cell : Fn := defn 3 (sSeq (sIf (sOr (sNot (sTest (sIsi .tuple (sVar 1)))) (sTest (sBin dNe (sCB dLen (sCons (sVar 1) sNil)) (sC (.int 2))))) (sRetVS (vD (sTake (sC (.bool false))))) sNext) (sSeq (sIf (sNot (sTest (sCB dAll (sCons (sKeep (sLC [2] (sSeqI (sTake (sVar 1))) (gsName 2) sYes (sTake (sAndV (sIsi .int (sVar 2)) (sNotV (sIsi .bool (sVar 2))))))) sNil)))) (sRetVS (vD (sTake (sC (.bool false))))) sNext) (sRetVS (vD (sTake (sAndV (sChain dLe dLt (sC (.int 0)) (sBin dIx (sVar 1) (sC (.int 0))) (sCB dLen (sCons (sVar 0) sNil))) (sChain dLe dLt (sC (.int 0)) (sBin dIx (sVar 1) (sC (.int 1))) (sCB dLen (sCons (sBin dIx (sVar 0) (sC (.int 0))) sNil)))))))))
noncomputable def m__law_is_bar : Fn := defn 7 (sSeq (sIf (sOr (sNot (sTest (sIsi2 .list .tuple (sVar 2)))) (sNot (sTest (sCB dAll (sCons (sKeep (sLC [6] (sSeqI (sTake (sVar 2))) (gsName 6) sYes (sTake (sAndV (sIsi .tuple (sVar 6)) (sBin dEq (sCB dLen (sCons (sVar 6) sNil)) (sC (.int 2))))))) sNil))))) (sRetVS (vD (sTake (sC (.bool false))))) sNext) (sSeq (sSetV (vD (sTake (sKeep (sCBL dSortedL (sCons (sKeep (sLst (sCons (sBin dIx (sBin dIx (sVar 0) (sC (.int 0))) (sC (.int 0))) (sCons (sBin dIx (sBin dIx (sVar 1) (sC (.int 0))) (sC (.int 0))) sNil)))) sNil))))) 3) (sSeq (sSetV (vD (sTake (sIf (sTest (sBin dEq (sBin dIx (sVar 3) (sC (.int 0))) (sBin dIx (sVar 3) (sC (.int 1))))) (sSlice (sVar 3) sNoPart (sPart (sC (.int 1)))) (sVar 3)))) 3) (sSeq (sIf (sOr (sTest (sBin dNe (sCB dRepr (sCons (sKeep (sLC [6] (sSeqI (sTake (sVar 2))) (gsName 6) sYes (sTake (sBin dIx (sVar 6) (sC (.int 0)))))) sNil)) (sCB dRepr (sCons (sVar 3) sNil)))) (sNot (sTest (sCB dAll (sCons (sKeep (sLC [6] (sSeqI (sTake (sVar 2))) (gsName 6) sYes (sTake (sCall 2 m__law_is_cell (sCons (sVar 0) (sCons (sBin dIx (sVar 6) (sC (.int 1))) sNil)))))) sNil))))) (sRetVS (vD (sTake (sC (.bool false))))) sNext) (sRetVS (vD (sTake (sCB dAll (sCons (sKeep (sLC [4, 5] (sSeqI (sTake (sVar 2))) (gsTup 2 (gsCons (gsName 4) (gsCons (gsName 5) gsNil))) sYes (sTake (sCall 4 m__law_is_wrong (sCons (sVar 0) (sCons (sVar 1) (sCons (sVar 4) (sCons (sVar 5) sNil)))))))) sNil)))))))))
noncomputable def m_is_full : Fn := defn 1 (sRetVS (vD (sTake (sCall 1 m_is_full_value (sCons (sVar 0) sNil)))))
noncomputable def m__law_right : Fn := defn 14 (sSeq (sFor (sSeqI (sTake (sCall 1 m__law_pictures (sCons (sVar 0) sNil)))) (gsName 1) (sSeq (sPar 2 3 (vD (sTake (sCall 1 m__law_is_full (sCons (sVar 1) sNil)))) (vD (sTake (sCB dRepr (sCons (sVar 1) sNil))))) (sIf (sOr (sTest (sBin dNe (sCB dRepr (sCons (sKeep (sLst (sCons (sCall 1 m_is_full (sCons (sVar 1) sNil)) (sCons (sCall 1 m_is_full (sPerm [0] (sApp 0 1 sNil (sCons (sVar 1) sNil)))) sNil)))) sNil)) (sCB dRepr (sCons (sKeep (sLst (sCons (sVar 2) (sCons (sVar 2) sNil)))) sNil)))) (sTest (sBin dNe (sCB dRepr (sCons (sVar 1) sNil)) (sVar 3)))) (sRetVS (vD (sTake (sC (.bool false))))) sNext))) (sSeq (sAsg (sTake (sCall 3 m__law_both (sCons (sVar 0) (sCons (sC (.int 4)) (sCons (sC (.int 3)) sNil))))) (gsTup 2 (gsCons (gsName 4) (gsCons (gsName 5) gsNil)))) (sSeq (sSetV (vD (sTake (sCall 2 m_side_bar (sCons (sVar 4) (sCons (sVar 5) sNil))))) 6) (sSeq (sSetV (vD (sTake (sKeep (sCBL dSortedL (sCons (sKeep (sLst (sCons (sBin dIx (sBin dIx (sVar 4) (sC (.int 0))) (sC (.int 0))) (sCons (sBin dIx (sBin dIx (sVar 5) (sC (.int 0))) (sC (.int 0))) sNil)))) sNil))))) 2) (sSeq (sIf (sTest (sBin dIs (sVar 6) (sC .none))) (sSetV (vD (sTake (sKeep (sLC [11] (sSeqI (sTake (sSlice (sVar 2) sNoPart (sPart (sIf (sTest (sBin dEq (sBin dIx (sVar 2) (sC (.int 0))) (sBin dIx (sVar 2) (sC (.int 1))))) (sC (.int 1)) (sC (.int 2))))))) (gsName 11) sYes (sTake (sTup (sCons (sVar 11) (sCons (sTup (sCons (sC (.int 0)) (sCons (sC (.int 0)) sNil))) sNil)))))))) 6) sNext) (sSeq (sSetV (vL (sBinL dAddL (sKeep (sLst (sCons (sVar 6) (sCons (sCB dTuple (sCons (sVar 6) sNil)) (sCons (sC .none) (sCons (sKeep (sLst sNil)) (sCons (sTup sNil) (sCons sDict0 (sCons (sC (.int 0)) (sCons (sKeep (sLst (sCons (sC .none) sNil))) sNil)))))))))) (sKeep (sLC [12] (sArgI rngI (sCons (sC (.int 16)) sNil)) (gsName 12) sYes (sTake (sCall 3 m__law_bent (sCons (sVar 0) (sCons (sVar 4) (sCons (sVar 6) sNil))))))))) 7) (sSeq (sFor (sArgI rngI (sCons (sCB dLen (sCons (sVar 4) sNil)) sNil)) (gsName 8) (sDrop (sMeth 7 mExtend (sCons (sKeep (sLC [13] (sArgI rngI (sCons (sCB dLen (sCons (sBin dIx (sVar 4) (sC (.int 0))) sNil)) sNil)) (gsName 13) sYes (sTake (sBin dAdd (sKeep (sLst (sCons (sTup (sCons (sBin dIx (sBin dIx (sVar 6) (sC (.int 0))) (sC (.int 0))) (sCons (sTup (sCons (sVar 8) (sCons (sVar 13) sNil))) sNil))) sNil))) (sSlice (sVar 6) (sPart (sC (.int 1))) sNoPart))))) sNil)))) (sSeq (sFor (sSeqI (sTake (sVar 7))) (gsName 1) (sSeq (sPar 9 3 (vD (sTake (sCall 3 m__law_is_bar (sCons (sVar 4) (sCons (sVar 5) (sCons (sVar 1) sNil)))))) (vD (sTake (sCB dRepr (sCons (sVar 1) sNil))))) (sSeq (sSetV (vD (sTake (sCall 3 m_is_side_bar (sPerm [2, 1, 0] (sApp 0 3 sNil (sCons (sVar 1) (sCons (sVar 5) (sCons (sVar 4) sNil)))))))) 10) (sIf (sOr (sTest (sBin dNe (sCB dRepr (sCons (sKeep (sLst (sCons (sCall 3 m_is_side_bar (sCons (sVar 4) (sCons (sVar 5) (sCons (sVar 1) sNil)))) (sCons (sVar 10) sNil)))) sNil)) (sCB dRepr (sCons (sKeep (sLst (sCons (sVar 9) (sCons (sVar 9) sNil)))) sNil)))) (sTest (sBin dNe (sCB dRepr (sCons (sVar 1) sNil)) (sVar 3)))) (sRetVS (vD (sTake (sC (.bool false))))) sNext)))) (sRetVS (vD (sTake (sC (.bool true)))))))))))))
noncomputable def m__law_pot : Fn := defn 3 (sSeq (sSetV (vD (sTake (sBin dAdd (sBin dMulX (sC (.int 1069)) (sVar 1)) (sC (.int 9319))))) 2) (sSeq (sIf (sTest (sBin dLt (sVar 1) (sCB dLen (sCons (sVar 0) sNil)))) (sSetV (vD (sTake (sCB dAbs (sCons (sBin dIx (sVar 0) (sVar 1)) sNil)))) 2) sNext) (sRetVS (vL (sLst (sCons (sCB dMax (sCons (sC (.int 0)) (sCons (sBin dSub (sVar 2) (sBin dPow (sC (.int 10)) (sC (.int 18)))) sNil))) (sCons (sBin dAdd (sBin dMod (sCB dInt (sCons (sBin dAdd (sBin dAdd (sBin dMulX (sBin dMod (sCB dInt (sCons (sVar 2) sNil)) (sC (.int 2147483549))) (sC (.int 40014))) (sBin dMulX (sC (.int 9319)) (sVar 1))) (sC (.int 61))) sNil)) (sC (.int 2147483563))) (sC (.int 1))) sNil)))))))
noncomputable def m_law : Fn := defn 2 (sRetVS (vD (sTake (sCB dAll (sCons (sKeep (sLC [1] (sArgI rngI (sCons (sCB dMax (sCons (sC (.int 1)) (sCons (sCB dMin (sCons (sC (.int 2)) (sCons (sCB dLen (sCons (sVar 0) sNil)) sNil))) sNil))) sNil)) (gsName 1) sYes (sTake (sCallF m__law_right (sCallL 2 m__law_pot (sCons (sVar 0) (sCons (sVar 1) sNil))))))) sNil)))))
/-! ### the walks -/
section
variable {P : Program} {w : World} {K : PySem.W.Frag} {mg : Str → Option Value} {base : Heap}
theorem g__law_sides {k : Nat} {f : Addr} {fd : FuncData} (F : Fun K "_law_sides" "_law_sides" s__law_sides f fd) (M : Md K mg) : FnG P w K mg base (k + 1) f fd ["draft", "dyeing"] m__law_sides :=
  fnG_of F sc__law_sides rfl fun cdv A outer s H hr hgd => ⟨_, (sss_cons (ss_par (i := 2) (j := 3) rfl sc__law_sides.nd (by decide) (sv_l (sl_lst sa_nil)) (sv_l (sl_lst sa_nil))) (sss_cons (ss_for PassesOwn.never rfl (si_enum rfl M.z_enumerate (sa_cons (se_ix (opIx rfl) vIx (se_pv 0) se_int) sa_nil)) (sg_tup rfl rfl (sgs_cons (sg_name (i := 4) sc__law_sides.nd) (sgs_cons (sg_name (i := 5) sc__law_sides.nd) sgs_nil))) (sss_cons (ss_par (i := 6) (j := 7) rfl sc__law_sides.nd (by decide) (sv_l (sl_lst sa_nil)) (sv_l (sl_lst sa_nil))) (sss_cons (ss_for PassesOwn.never rfl (si_enum rfl M.z_enumerate (sa_cons (se_pv 5) sa_nil)) (sg_tup rfl rfl (sgs_cons (sg_name (i := 8) sc__law_sides.nd) (sgs_cons (sg_name (i := 9) sc__law_sides.nd) sgs_nil))) (sss_cons (ss_par (i := 10) (j := 11) rfl sc__law_sides.nd (by decide) (sv_d (sd_se (se_ix (opIx rfl) vIx (se_ix (opIx rfl) vIx (se_pv 1) se_int) (se_pv 8)))) (sv_d (sd_se (se_ix (opIx rfl) vIx (se_ix (opIx rfl) vIx (se_pv 1) se_int) (se_pv 4))))) (sss_cons (ss_expr (se_append rfl (se_pv 6) (sa_cons (se_if (st_cmp (opEq rfl hr) vEq (se_pv 9) se_int) (se_pv 10) (se_pv 11)) sa_nil))) (sss_one (ss_expr (se_append rfl (se_pv 7) (sa_cons (se_if (st_cmp (opEq rfl hr) vEq (se_pv 9) se_int) (se_pv 11) (se_pv 10)) sa_nil))))))) (sss_cons (ss_expr (se_append rfl (se_pv 2) (sa_cons (se_ct (crTuple rfl) vTuple M.z_tuple bt_tuple (sa_cons (se_pv 6) sa_nil)) sa_nil))) (sss_one (ss_expr (se_append rfl (se_pv 3) (sa_cons (se_ct (crTuple rfl) vTuple M.z_tuple bt_tuple (sa_cons (se_pv 7) sa_nil)) sa_nil)))))))) (sss_one (ss_ret (sv_d (sd_se (se_tup (sa_cons (se_ct (crTuple rfl) vTuple M.z_tuple bt_tuple (sa_cons (se_pv 2) sa_nil)) (sa_cons (se_ct (crTuple rfl) vTuple M.z_tuple bt_tuple (sa_cons (se_pv 3) sa_nil)) sa_nil)))))))))⟩
theorem g__law_draw {k : Nat} {f : Addr} {fd : FuncData} (F : Fun K "_law_draw" "_law_draw" s__law_draw f fd) (M : Md K mg) : FnG P w K mg base (k + 1) f fd ["pot", "many"] m__law_draw :=
  fnG_of F sc__law_draw rfl fun cdv A outer s H hr hgd => ⟨_, (sss_cons (ss_if (st_cmp op_gt vGt (se_ix (opIx rfl) vIx (se_pv 0) se_int) se_int) (sss_cons (ss_asg (sd_se (se_cb crDivmod vDivmod M.z_divmod bt_divmod (sa_cons (se_ix (opIx rfl) vIx (se_pv 0) se_int) (sa_cons (se_pv 1) sa_nil)))) (sg_tup rfl rfl (sgs_cons (sg_sub (se_pv 0) se_int) (sgs_cons (sg_name (i := 2) sc__law_draw.nd) sgs_nil)))) (sss_one (ss_ret (sv_d (sd_se (se_pv 2)))))) sss_nil) (sss_cons (ss_asg (sd_se (se_bin op_mod vMod (se_ct crInt vInt M.z_int bt_int (sa_cons (se_bin (opAdd rfl) vAdd (se_bin (opMulX rfl) vMulX (se_ix (opIx rfl) vIx (se_pv 0) se_int) se_int) se_int) sa_nil)) se_int)) (sg_sub (se_pv 0) se_int)) (sss_one (ss_ret (sv_d (sd_se (se_bin op_mod vMod (se_ct crInt vInt M.z_int bt_int (sa_cons (se_bin op_fdiv vDiv (se_bin op_mod vMod (se_ct crInt vInt M.z_int bt_int (sa_cons (se_bin (opMulX rfl) vMulX (se_ix (opIx rfl) vIx (se_pv 0) se_int) (se_ix (opIx rfl) vIx (se_pv 0) se_int)) sa_nil)) se_int) se_int) sa_nil)) (se_pv 1))))))))⟩
theorem g__law_colours {k : Nat} {f : Addr} {fd : FuncData} (F : Fun K "_law_colours" "_law_colours" s__law_colours f fd) (M : Md K mg) {f__law_draw : Addr} {fd__law_draw : FuncData} (c__law_draw : DL.Cal P w K mg base k "_law_draw" ["pot", "many"] m__law_draw f__law_draw fd__law_draw) : FnG P w K mg base (k + 1) f fd ["pot", "many", "most"] m__law_colours :=
  fnG_of F sc__law_colours rfl fun cdv A outer s H hr hgd => ⟨_, (sss_one (ss_ret (sv_d (sd_se (se_ct (crTuple rfl) vTuple M.z_tuple bt_tuple (sa_cons (se_sl (sl_lc [("strand", 3)] [3] rfl sc__law_colours.nd (si_rng1 M.z_range (sa_cons (se_pv 1) sa_nil)) (by kernel_rfl) (fun _ _ _ _ _ => (sg_name (i := 3) sc__law_colours.nd)) (fun _ _ _ _ _ => sts_nil) (fun _ _ _ _ _ => (sd_se (se_call (K := K) (ps := ["pot", "many"]) (m := m__law_draw) rfl c__law_draw hr hgd (sa_cons (se_pv 0) (sa_cons (se_pv 2) sa_nil))))))) sa_nil))))))⟩
theorem g__law_draft {k : Nat} {f : Addr} {fd : FuncData} (F : Fun K "_law_draft" "_law_draft" s__law_draft f fd) (M : Md K mg) {f__law_draw : Addr} {fd__law_draw : FuncData} (c__law_draw : DL.Cal P w K mg base k "_law_draw" ["pot", "many"] m__law_draw f__law_draw fd__law_draw) : FnG P w K mg base (k + 1) f fd ["pot", "wefts", "warps"] m__law_draft :=
  fnG_of F sc__law_draft rfl fun cdv A outer s H hr hgd => ⟨_, (sss_one (ss_ret (sv_d (sd_se (se_tup (sa_cons se_str (sa_cons (se_ct (crTuple rfl) vTuple M.z_tuple bt_tuple (sa_cons (se_sl (sl_lc [("weft", 3)] [3] rfl sc__law_draft.nd (si_rng1 M.z_range (sa_cons (se_pv 1) sa_nil)) (by kernel_rfl) (fun _ _ _ _ _ => (sg_name (i := 3) sc__law_draft.nd)) (fun _ _ _ _ _ => sts_nil) (fun _ _ _ _ _ => (sd_se (se_ct (crTuple rfl) vTuple M.z_tuple bt_tuple (sa_cons (se_sl (sl_lc [("warp", 4)] [4] rfl sc__law_draft.nd (si_rng1 M.z_range (sa_cons (se_pv 2) sa_nil)) (by kernel_rfl) (fun _ _ _ _ _ => (sg_name (i := 4) sc__law_draft.nd)) (fun _ _ _ _ _ => sts_nil) (fun _ _ _ _ _ => (sd_se (se_call (K := K) (ps := ["pot", "many"]) (m := m__law_draw) rfl c__law_draw hr hgd (sa_cons (se_pv 0) (sa_cons se_int sa_nil))))))) sa_nil)))))) sa_nil)) sa_nil)))))))⟩
theorem g__law_both {k : Nat} {f : Addr} {fd : FuncData} (F : Fun K "_law_both" "_law_both" s__law_both f fd) (M : Md K mg) {f__law_draw : Addr} {fd__law_draw : FuncData} (c__law_draw : DL.Cal P w K mg base k "_law_draw" ["pot", "many"] m__law_draw f__law_draw fd__law_draw) {f__law_sides : Addr} {fd__law_sides : FuncData} (c__law_sides : DL.Cal P w K mg base k "_law_sides" ["draft", "dyeing"] m__law_sides f__law_sides fd__law_sides) {f__law_draft : Addr} {fd__law_draft : FuncData} (c__law_draft : DL.Cal P w K mg base k "_law_draft" ["pot", "wefts", "warps"] m__law_draft f__law_draft fd__law_draft) {f__law_colours : Addr} {fd__law_colours : FuncData} (c__law_colours : DL.Cal P w K mg base k "_law_colours" ["pot", "many", "most"] m__law_colours f__law_colours fd__law_colours) : FnG P w K mg base (k + 1) f fd ["pot", "most", "wrong"] m__law_both :=
  fnG_of F sc__law_both rfl fun cdv A outer s H hr hgd => ⟨_, (sss_cons (ss_par (i := 3) (j := 4) rfl sc__law_both.nd (by decide) (sv_d (sd_se (se_bin (opAdd rfl) vAdd se_int (se_call (K := K) (ps := ["pot", "many"]) (m := m__law_draw) rfl c__law_draw hr hgd (sa_cons (se_pv 0) (sa_cons (se_pv 1) sa_nil)))))) (sv_d (sd_se (se_bin (opAdd rfl) vAdd se_int (se_call (K := K) (ps := ["pot", "many"]) (m := m__law_draw) rfl c__law_draw hr hgd (sa_cons (se_pv 0) (sa_cons (se_pv 1) sa_nil))))))) (sss_cons (ss_set (i := 5) sc__law_both.nd (sv_d (sd_se (se_bin (opAdd rfl) vAdd se_int (se_call (K := K) (ps := ["pot", "many"]) (m := m__law_draw) rfl c__law_draw hr hgd (sa_cons (se_pv 0) (sa_cons se_int sa_nil))))))) (sss_cons (ss_set (i := 6) sc__law_both.nd (sv_d (sd_se (se_tup (sa_cons (se_call (K := K) (ps := ["pot", "many", "most"]) (m := m__law_colours) rfl c__law_colours hr hgd (sa_cons (se_pv 0) (sa_cons (se_pv 4) (sa_cons (se_pv 5) sa_nil)))) (sa_cons (se_call (K := K) (ps := ["pot", "many", "most"]) (m := m__law_colours) rfl c__law_colours hr hgd (sa_cons (se_pv 0) (sa_cons (se_pv 3) (sa_cons (se_pv 5) sa_nil)))) sa_nil)))))) (sss_cons (ss_asg (sd_se (se_call (K := K) (ps := ["draft", "dyeing"]) (m := m__law_sides) rfl c__law_sides hr hgd (sa_cons (se_call (K := K) (ps := ["pot", "wefts", "warps"]) (m := m__law_draft) rfl c__law_draft hr hgd (sa_cons (se_pv 0) (sa_cons (se_pv 3) (sa_cons (se_pv 4) sa_nil)))) (sa_cons (se_pv 6) sa_nil)))) (sg_tup rfl rfl (sgs_cons (sg_name (i := 7) sc__law_both.nd) (sgs_cons (sg_name (i := 8) sc__law_both.nd) sgs_nil)))) (sss_tree (i := 9) sc__law_both.nd (sm_two (sm_lc [("row", 14)] [14] rfl sc__law_both.nd (si_seq rfl (sd_se (se_pv 7))) (by kernel_rfl) (fun _ _ _ _ _ => (sg_name (i := 14) sc__law_both.nd)) (fun _ _ _ _ _ => (sm_leaf (sl_ct (crList rfl) vListL M.z_list bt_list (sa_cons (se_pv 14) sa_nil))))) (sm_lc [("row", 14)] [14] rfl sc__law_both.nd (si_seq rfl (sd_se (se_pv 8))) (by kernel_rfl) (fun _ _ _ _ _ => (sg_name (i := 14) sc__law_both.nd)) (fun _ _ _ _ _ => (sm_leaf (sl_ct (crList rfl) vListL M.z_list bt_list (sa_cons (se_pv 14) sa_nil)))))) (st1_for PassesOwn.never rfl (si_rng1 M.z_range (sa_cons (se_call (K := K) (ps := ["pot", "many"]) (m := m__law_draw) rfl c__law_draw hr hgd (sa_cons (se_pv 0) (sa_cons (se_bin (opAdd rfl) vAdd (se_pv 2) se_int) sa_nil))) sa_nil)) (sg_name (i := 10) sc__law_both.nd) (by decide) (stn_cons (st1_par3 (j1 := 11) (j2 := 12) (j3 := 13) rfl sc__law_both.nd (by decide) (by decide) (by decide) (by decide) (sa_cons (se_call (K := K) (ps := ["pot", "many"]) (m := m__law_draw) rfl c__law_draw hr hgd (sa_cons (se_pv 0) (sa_cons se_int sa_nil))) (sa_cons (se_call (K := K) (ps := ["pot", "many"]) (m := m__law_draw) rfl c__law_draw hr hgd (sa_cons (se_pv 0) (sa_cons (se_pv 3) sa_nil))) (sa_cons (se_call (K := K) (ps := ["pot", "many"]) (m := m__law_draw) rfl c__law_draw hr hgd (sa_cons (se_pv 0) (sa_cons (se_pv 4) sa_nil))) sa_nil)))) (stn_one (st1_put3 rfl (sd_se (se_call (K := K) (ps := ["pot", "many"]) (m := m__law_draw) rfl c__law_draw hr hgd (sa_cons (se_pv 0) (sa_cons (se_bin (opAdd rfl) vAdd (se_pv 5) se_int) sa_nil)))) (se_pv 9) (se_pv 11) (se_pv 12) (se_pv 13))))) (sss_one (ss_ret (sv_d (sd_se (se_tup (sa_cons (se_ct (crTuple rfl) vTuple M.z_tuple bt_tuple (sa_cons (se_sl (sl_lc [("row", 14)] [14] rfl sc__law_both.nd (si_seq rfl (sd_se (se_ix (opIx rfl) vIx (se_pv 9) se_int))) (by kernel_rfl) (fun _ _ _ _ _ => (sg_name (i := 14) sc__law_both.nd)) (fun _ _ _ _ _ => sts_nil) (fun _ _ _ _ _ => (sd_se (se_ct (crTuple rfl) vTuple M.z_tuple bt_tuple (sa_cons (se_pv 14) sa_nil)))))) sa_nil)) (sa_cons (se_ct (crTuple rfl) vTuple M.z_tuple bt_tuple (sa_cons (se_sl (sl_lc [("row", 14)] [14] rfl sc__law_both.nd (si_seq rfl (sd_se (se_ix (opIx rfl) vIx (se_pv 9) se_int))) (by kernel_rfl) (fun _ _ _ _ _ => (sg_name (i := 14) sc__law_both.nd)) (fun _ _ _ _ _ => sts_nil) (fun _ _ _ _ _ => (sd_se (se_ct (crTuple rfl) vTuple M.z_tuple bt_tuple (sa_cons (se_pv 14) sa_nil)))))) sa_nil)) sa_nil))))))))))))⟩
theorem g__law_pictures {k : Nat} {f : Addr} {fd : FuncData} (F : Fun K "_law_pictures" "_law_pictures" s__law_pictures f fd) (M : Md K mg) {f__law_draw : Addr} {fd__law_draw : FuncData} (c__law_draw : DL.Cal P w K mg base k "_law_draw" ["pot", "many"] m__law_draw f__law_draw fd__law_draw) {f__law_both : Addr} {fd__law_both : FuncData} (c__law_both : DL.Cal P w K mg base k "_law_both" ["pot", "most", "wrong"] m__law_both f__law_both fd__law_both) : FnG P w K mg base (k + 1) f fd ["pot"] m__law_pictures :=
  fnG_of F sc__law_pictures rfl fun cdv A outer s H hr hgd => ⟨_, (sss_cons (ss_asg (sd_se (se_call (K := K) (ps := ["pot", "most", "wrong"]) (m := m__law_both) rfl c__law_both hr hgd (sa_cons (se_pv 0) (sa_cons se_int (sa_cons se_int sa_nil))))) (sg_tup rfl rfl (sgs_cons (sg_name (i := 1) sc__law_pictures.nd) (sgs_cons (sg_name (i := 2) sc__law_pictures.nd) sgs_nil)))) (sss_cons (ss_par (i := 3) (j := 4) rfl sc__law_pictures.nd (by decide) (sv_d (sd_se (se_call (K := K) (ps := ["pot", "many"]) (m := m__law_draw) rfl c__law_draw hr hgd (sa_cons (se_pv 0) (sa_cons (se_cb (crLen rfl) vLen M.z_len bt_len (sa_cons (se_pv 1) sa_nil)) sa_nil))))) (sv_d (sd_se (se_call (K := K) (ps := ["pot", "many"]) (m := m__law_draw) rfl c__law_draw hr hgd (sa_cons (se_pv 0) (sa_cons (se_cb (crLen rfl) vLen M.z_len bt_len (sa_cons (se_ix (opIx rfl) vIx (se_pv 1) se_int) sa_nil)) sa_nil)))))) (sss_cons (ss_set (i := 5) sc__law_pictures.nd (sv_l (sl_lst (sa_cons (se_pv 1) (sa_cons (se_pv 2) (sa_cons (se_sl (sl_ct (crList rfl) vListL M.z_list bt_list (sa_cons (se_pv 1) sa_nil))) (sa_cons (se_tup sa_nil) (sa_cons (se_sl (sl_lst sa_nil)) (sa_cons se_non (sa_cons se_int (sa_cons se_str (sa_cons se_dict0 (sa_cons (se_tup (sa_cons (se_tup sa_nil) sa_nil)) (sa_cons (se_tup (sa_cons (se_pv 1) sa_nil)) (sa_cons (se_ix (opIx rfl) vIx (se_pv 1) se_int) (sa_cons (se_bin (opMulX rfl) vMulX (se_pv 1) se_int) sa_nil)))))))))))))))) (sss_cons (ss_expr (se_append rfl (se_pv 5) (sa_cons (se_tup (sa_cons (se_bin (opMulX rfl) vMulX (se_ix (opIx rfl) vIx (se_pv 1) se_int) se_int) sa_nil)) sa_nil))) (sss_cons (ss_for PassesOwn.never rfl (si_seq rfl (sd_se (se_sl (sl_lst (sa_cons se_non (sa_cons se_bl (sa_cons (se_un un_neg vNeg se_int) (sa_cons se_int (sa_cons se_int (sa_cons se_str (sa_cons (se_tup (sa_cons se_int sa_nil)) sa_nil))))))))))) (sg_name (i := 6) sc__law_pictures.nd) (sss_cons (ss_set (i := 7) sc__law_pictures.nd (sv_d (sd_se (se_bin (opAdd rfl) vAdd (se_bin (opAdd rfl) vAdd (se_slice rfl (se_ix (opIx rfl) vIx (se_pv 1) (se_pv 3)) so_none (so_some (se_pv 4))) (se_tup (sa_cons (se_pv 6) sa_nil))) (se_slice rfl (se_ix (opIx rfl) vIx (se_pv 1) (se_pv 3)) (so_some (se_bin (opAdd rfl) vAdd (se_pv 4) se_int)) so_none))))) (sss_one (ss_expr (se_append rfl (se_pv 5) (sa_cons (se_bin (opAdd rfl) vAdd (se_bin (opAdd rfl) vAdd (se_slice rfl (se_pv 1) so_none (so_some (se_pv 3))) (se_tup (sa_cons (se_pv 7) sa_nil))) (se_slice rfl (se_pv 1) (so_some (se_bin (opAdd rfl) vAdd (se_pv 3) se_int)) so_none)) sa_nil)))))) (sss_cons (ss_for PassesOwn.never rfl (si_seq rfl (sd_se (se_sl (sl_lst (sa_cons (se_tup sa_nil) (sa_cons (se_slice rfl (se_ix (opIx rfl) vIx (se_pv 1) (se_pv 3)) (so_some se_int) so_none) (sa_cons (se_bin (opAdd rfl) vAdd (se_ix (opIx rfl) vIx (se_pv 1) (se_pv 3)) (se_tup (sa_cons se_int sa_nil))) (sa_cons (se_sl (sl_ct (crList rfl) vListL M.z_list bt_list (sa_cons (se_ix (opIx rfl) vIx (se_pv 1) (se_pv 3)) sa_nil))) (sa_cons se_non sa_nil))))))))) (sg_name (i := 7) sc__law_pictures.nd) (sss_one (ss_expr (se_append rfl (se_pv 5) (sa_cons (se_bin (opAdd rfl) vAdd (se_bin (opAdd rfl) vAdd (se_slice rfl (se_pv 1) so_none (so_some (se_pv 3))) (se_tup (sa_cons (se_pv 7) sa_nil))) (se_slice rfl (se_pv 1) (so_some (se_bin (opAdd rfl) vAdd (se_pv 3) se_int)) so_none)) sa_nil))))) (sss_one (ss_retV (se_pv 5)))))))))⟩
theorem g_is_integer {k : Nat} {f : Addr} {fd : FuncData} (F : Fun K "is_integer" "is_integer" s_is_integer f fd) (M : Md K mg) : FnG P w K mg base (k + 1) f fd ["value"] m_is_integer :=
  fnG_of F sc_is_integer rfl fun cdv A outer s H hr hgd => ⟨_, (sss_one (ss_ret (sv_d (sd_se (se_and (se_isi (T := .int) rfl nofun M.z_isinstance M.z_int bt_int (se_pv 0)) (se_one (se_not (se_isi (T := .bool) rfl nofun M.z_isinstance M.z_bool bt_bool (se_pv 0)))))))))⟩
theorem g_is_within {k : Nat} {f : Addr} {fd : FuncData} (F : Fun K "is_within" "is_within" s_is_within f fd) (M : Md K mg) {f_is_integer : Addr} {fd_is_integer : FuncData} (c_is_integer : DL.Cal P w K mg base k "is_integer" ["value"] m_is_integer f_is_integer fd_is_integer) : FnG P w K mg base (k + 1) f fd ["value", "least", "most"] m_is_within :=
  fnG_of F sc_is_within rfl fun cdv A outer s H hr hgd => ⟨_, (sss_one (ss_ret (sv_d (sd_se (se_and (se_call (K := K) (ps := ["value"]) (m := m_is_integer) rfl c_is_integer hr hgd (sa_cons (se_pv 0) sa_nil)) (se_one (se_chain op_le vLe op_le vLe (se_pv 1) (se_pv 0) (se_pv 2))))))))⟩
theorem g_is_full_value {k : Nat} {f : Addr} {fd : FuncData} (F : Fun K "is_full_value" "is_full_value" s_is_full_value f fd) (M : Md K mg) {f_is_within : Addr} {fd_is_within : FuncData} (c_is_within : DL.Cal P w K mg base k "is_within" ["value", "least", "most"] m_is_within f_is_within fd_is_within) : FnG P w K mg base (k + 1) f fd ["value"] m_is_full_value :=
  fnG_of F sc_is_full_value rfl fun cdv A outer s H hr hgd => ⟨_, (sss_cons (ss_if (st_sw (sw_or (st_not (st_val (se_isi (T := .tuple) rfl nofun M.z_isinstance M.z_tuple bt_tuple (se_pv 0)))) (sw_or1 (st_not (st_chain op_le vLe op_le vLe se_int (se_cb (crLen rfl) vLen M.z_len bt_len (sa_cons (se_pv 0) sa_nil)) (se_glob M.c_MOST)))))) (sss_one (ss_ret (sv_d (sd_se se_bl)))) sss_nil) (sss_cons (ss_if (st_not (st_val (se_cb (crAll rfl rfl) vAll M.z_all bt_all (sa_cons (se_sl (sl_lc [("row", 1)] [1] rfl sc_is_full_value.nd (si_seq rfl (sd_se (se_pv 0))) (by kernel_rfl) (fun _ _ _ _ _ => (sg_name (i := 1) sc_is_full_value.nd)) (fun _ _ _ _ _ => sts_nil) (fun _ _ _ _ _ => (sd_se (se_isi (T := .tuple) rfl nofun M.z_isinstance M.z_tuple bt_tuple (se_pv 1)))))) sa_nil)))) (sss_one (ss_ret (sv_d (sd_se se_bl)))) sss_nil) (sss_cons (ss_if (st_sw (sw_or (st_not (st_chain op_le vLe op_le vLe se_int (se_cb (crLen rfl) vLen M.z_len bt_len (sa_cons (se_ix (opIx rfl) vIx (se_pv 0) se_int) sa_nil)) (se_glob M.c_MOST))) (sw_or1 (st_val (se_cb (crAny rfl rfl) vAny M.z_any bt_any (sa_cons (se_sl (sl_lc [("row", 1)] [1] rfl sc_is_full_value.nd (si_seq rfl (sd_se (se_pv 0))) (by kernel_rfl) (fun _ _ _ _ _ => (sg_name (i := 1) sc_is_full_value.nd)) (fun _ _ _ _ _ => sts_nil) (fun _ _ _ _ _ => (sd_se (se_cmp (opNe rfl hr) vNe (se_cb (crLen rfl) vLen M.z_len bt_len (sa_cons (se_pv 1) sa_nil)) (se_cb (crLen rfl) vLen M.z_len bt_len (sa_cons (se_ix (opIx rfl) vIx (se_pv 0) se_int) sa_nil))))))) sa_nil)))))) (sss_one (ss_ret (sv_d (sd_se se_bl)))) sss_nil) (sss_one (ss_ret (sv_d (sd_se (se_cb (crAll rfl rfl) vAll M.z_all bt_all (sa_cons (se_sl (sl_lc [("row", 1)] [1] rfl sc_is_full_value.nd (si_seq rfl (sd_se (se_pv 0))) (by kernel_rfl) (fun _ _ _ _ _ => (sg_name (i := 1) sc_is_full_value.nd)) (fun _ _ _ _ _ => sts_nil) (fun _ _ _ _ _ => (sd_se (se_cb (crAll rfl rfl) vAll M.z_all bt_all (sa_cons (se_sl (sl_lc [("one", 2)] [2] rfl sc_is_full_value.nd (si_seq rfl (sd_se (se_pv 1))) (by kernel_rfl) (fun _ _ _ _ _ => (sg_name (i := 2) sc_is_full_value.nd)) (fun _ _ _ _ _ => sts_nil) (fun _ _ _ _ _ => (sd_se (se_call (K := K) (ps := ["value", "least", "most"]) (m := m_is_within) rfl c_is_within hr hgd (sa_cons (se_pv 2) (sa_cons se_int (sa_cons (se_glob M.c_MOST_COLOUR) sa_nil)))))))) sa_nil)))))) sa_nil)))))))))⟩
theorem g_want_full {k : Nat} {f : Addr} {fd : FuncData} (F : Fun K "want_full" "want_full" s_want_full f fd) (M : Md K mg) {f_is_full_value : Addr} {fd_is_full_value : FuncData} (c_is_full_value : DL.Cal P w K mg base k "is_full_value" ["value"] m_is_full_value f_is_full_value fd_is_full_value) : FnG P w K mg base (k + 1) f fd ["picture"] m_want_full :=
  fnG_of F sc_want_full rfl fun cdv A outer s H hr hgd => ⟨_, (sss_one (ss_if (st_not (st_val (se_call (K := K) (ps := ["value"]) (m := m_is_full_value) rfl c_is_full_value hr hgd (sa_cons (se_pv 0) sa_nil)))) (sss_one ss_never) sss_nil))⟩
theorem g_want_both {k : Nat} {f : Addr} {fd : FuncData} (F : Fun K "want_both" "want_both" s_want_both f fd) (M : Md K mg) {f_is_full_value : Addr} {fd_is_full_value : FuncData} (c_is_full_value : DL.Cal P w K mg base k "is_full_value" ["value"] m_is_full_value f_is_full_value fd_is_full_value) {f_want_full : Addr} {fd_want_full : FuncData} (c_want_full : DL.Cal P w K mg base k "want_full" ["picture"] m_want_full f_want_full fd_want_full) : FnG P w K mg base (k + 1) f fd ["front", "back"] m_want_both :=
  fnG_of F sc_want_both rfl fun cdv A outer s H hr hgd => ⟨_, (sss_cons (ss_expr (se_call (K := K) (ps := ["picture"]) (m := m_want_full) rfl c_want_full hr hgd (sa_cons (se_pv 0) sa_nil))) (sss_one (ss_if (st_sw (sw_or (st_not (st_val (se_call (K := K) (ps := ["value"]) (m := m_is_full_value) rfl c_is_full_value hr hgd (sa_cons (se_pv 1) sa_nil)))) (sw_or (st_cmp (opNe rfl hr) vNe (se_cb (crLen rfl) vLen M.z_len bt_len (sa_cons (se_pv 1) sa_nil)) (se_cb (crLen rfl) vLen M.z_len bt_len (sa_cons (se_pv 0) sa_nil))) (sw_or1 (st_cmp (opNe rfl hr) vNe (se_cb (crLen rfl) vLen M.z_len bt_len (sa_cons (se_ix (opIx rfl) vIx (se_pv 1) se_int) sa_nil)) (se_cb (crLen rfl) vLen M.z_len bt_len (sa_cons (se_ix (opIx rfl) vIx (se_pv 0) se_int) sa_nil))))))) (sss_one ss_never) sss_nil)))⟩
theorem g_other_of {k : Nat} {f : Addr} {fd : FuncData} (F : Fun K "other_of" "other_of" s_other_of f fd) (M : Md K mg) : FnG P w K mg base (k + 1) f fd ["both", "colour"] m_other_of :=
  fnG_of F sc_other_of rfl fun cdv A outer s H hr hgd => ⟨_, (sss_cons (ss_if (st_sw (sw_or (st_cmp opIs vIs (se_pv 1) se_non) (sw_or1 (st_cmp (opNotIn rfl hr) vNotIn (se_pv 1) (se_pv 0))))) (sss_one (ss_ret (sv_d (sd_se se_non)))) sss_nil) (sss_one (ss_ret (sv_d (sd_se (se_if (st_cmp (opEq rfl hr) vEq (se_pv 1) (se_ix (opIx rfl) vIx (se_pv 0) se_int)) (se_ix (opIx rfl) vIx (se_pv 0) se_int) (se_ix (opIx rfl) vIx (se_pv 0) se_int)))))))⟩
theorem g_both_at {k : Nat} {f : Addr} {fd : FuncData} (F : Fun K "both_at" "both_at" s_both_at f fd) (M : Md K mg) : FnG P w K mg base (k + 1) f fd ["front", "back", "weft", "warp"] m_both_at :=
  fnG_of F sc_both_at rfl fun cdv A outer s H hr hgd => ⟨_, (sss_one (ss_ret (sv_d (sd_se (se_tup (sa_cons (se_ix (opIx rfl) vIx (se_ix (opIx rfl) vIx (se_pv 0) (se_pv 2)) (se_pv 3)) (sa_cons (se_ix (opIx rfl) vIx (se_ix (opIx rfl) vIx (se_pv 1) (se_pv 2)) (se_pv 3)) sa_nil)))))))⟩
theorem g_told_by {k : Nat} {f : Addr} {fd : FuncData} (F : Fun K "told_by" "told_by" s_told_by f fd) (M : Md K mg) {f_other_of : Addr} {fd_other_of : FuncData} (c_other_of : DL.Cal P w K mg base k "other_of" ["both", "colour"] m_other_of f_other_of fd_other_of) {f_both_at : Addr} {fd_both_at : FuncData} (c_both_at : DL.Cal P w K mg base k "both_at" ["front", "back", "weft", "warp"] m_both_at f_both_at fd_both_at) : FnG P w K mg base (k + 1) f fd ["front", "back", "colour"] m_told_by :=
  fnG_of F sc_told_by rfl fun cdv A outer s H hr hgd => ⟨_, (sss_cons (ss_set (i := 3) sc_told_by.nd (sv_d (sd_se (se_sl (sl_lc [("weft", 5)] [5] rfl sc_told_by.nd (si_rng1 M.z_range (sa_cons (se_cb (crLen rfl) vLen M.z_len bt_len (sa_cons (se_pv 0) sa_nil)) sa_nil)) (by kernel_rfl) (fun _ _ _ _ _ => (sg_name (i := 5) sc_told_by.nd)) (fun _ _ _ _ _ => sts_nil) (fun _ _ _ _ _ => (sd_se (se_call (K := K) (ps := ["both", "colour"]) (m := m_other_of) rfl c_other_of hr hgd (sa_cons (se_call (K := K) (ps := ["front", "back", "weft", "warp"]) (m := m_both_at) rfl c_both_at hr hgd (sa_cons (se_pv 0) (sa_cons (se_pv 1) (sa_cons (se_pv 5) (sa_cons se_int sa_nil))))) (sa_cons (se_pv 2) sa_nil)))))))))) (sss_cons (ss_setLc (i := 4) true [("warp", 6)] [6] rfl sc_told_by.nd (si_rng2 M.z_range (sa_cons se_int (sa_cons (se_cb (crLen rfl) vLen M.z_len bt_len (sa_cons (se_ix (opIx rfl) vIx (se_pv 0) se_int) sa_nil)) sa_nil))) (by kernel_rfl) (fun _ _ _ _ _ => (sg_name (i := 6) sc_told_by.nd)) (fun _ _ _ _ _ => sts_nil) (fun _ _ _ _ _ => (sd_se (se_call (K := K) (ps := ["both", "colour"]) (m := m_other_of) rfl c_other_of hr hgd (sa_cons (se_call (K := K) (ps := ["front", "back", "weft", "warp"]) (m := m_both_at) rfl c_both_at hr hgd (sa_cons (se_pv 0) (sa_cons (se_pv 1) (sa_cons se_int (sa_cons (se_pv 6) sa_nil))))) (sa_cons (se_ix (opIx rfl) vIx (se_pv 3) se_int) sa_nil))))) (sw_true rfl rfl rfl rfl)) (sss_one (ss_ret (sv_d (sd_se (se_tup (sa_cons (se_ct (crTuple rfl) vTuple M.z_tuple bt_tuple (sa_cons (se_bin (opAdd rfl) vAdd (se_sl (sl_lst (sa_cons (se_pv 2) sa_nil))) (se_pv 4)) sa_nil)) (sa_cons (se_ct (crTuple rfl) vTuple M.z_tuple bt_tuple (sa_cons (se_pv 3) sa_nil)) sa_nil)))))))))⟩
theorem g_are_both {k : Nat} {f : Addr} {fd : FuncData} (F : Fun K "are_both" "are_both" s_are_both f fd) (M : Md K mg) : FnG P w K mg base (k + 1) f fd ["both", "one", "other"] m_are_both :=
  fnG_of F sc_are_both rfl fun cdv A outer s H hr hgd => ⟨_, (sss_one (ss_ret (sv_d (sd_se (se_cmp (opIn rfl hr) vIn (se_pv 0) (se_tup (sa_cons (se_tup (sa_cons (se_pv 1) (sa_cons (se_pv 2) sa_nil))) (sa_cons (se_tup (sa_cons (se_pv 2) (sa_cons (se_pv 1) sa_nil))) sa_nil))))))))⟩
theorem g_is_wrong_at {k : Nat} {f : Addr} {fd : FuncData} (F : Fun K "is_wrong_at" "is_wrong_at" s_is_wrong_at f fd) (M : Md K mg) {f_are_both : Addr} {fd_are_both : FuncData} (c_are_both : DL.Cal P w K mg base k "are_both" ["both", "one", "other"] m_are_both f_are_both fd_are_both) {f_both_at : Addr} {fd_both_at : FuncData} (c_both_at : DL.Cal P w K mg base k "both_at" ["front", "back", "weft", "warp"] m_both_at f_both_at fd_both_at) : FnG P w K mg base (k + 1) f fd ["front", "back", "told", "weft", "warp"] m_is_wrong_at :=
  fnG_of F sc_is_wrong_at rfl fun cdv A outer s H hr hgd => ⟨_, (sss_cons (ss_if (st_cmp (opEq rfl hr) vEq (se_pv 4) se_int) (sss_one (ss_ret (sv_d (sd_se (se_cmp opIs vIs (se_ix (opIx rfl) vIx (se_ix (opIx rfl) vIx (se_pv 2) se_int) (se_pv 3)) se_non))))) sss_nil) (sss_cons (ss_if (st_cmp (opEq rfl hr) vEq (se_pv 3) se_int) (sss_one (ss_ret (sv_d (sd_se (se_cmp opIs vIs (se_ix (opIx rfl) vIx (se_ix (opIx rfl) vIx (se_pv 2) se_int) (se_pv 4)) se_non))))) sss_nil) (sss_cons (ss_if (st_sw (sw_or (st_cmp opIs vIs (se_ix (opIx rfl) vIx (se_ix (opIx rfl) vIx (se_pv 2) se_int) (se_pv 4)) se_non) (sw_or1 (st_cmp opIs vIs (se_ix (opIx rfl) vIx (se_ix (opIx rfl) vIx (se_pv 2) se_int) (se_pv 3)) se_non)))) (sss_one (ss_ret (sv_d (sd_se se_bl)))) sss_nil) (sss_one (ss_ret (sv_d (sd_se (se_not (se_call (K := K) (ps := ["both", "one", "other"]) (m := m_are_both) rfl c_are_both hr hgd (sa_cons (se_call (K := K) (ps := ["front", "back", "weft", "warp"]) (m := m_both_at) rfl c_both_at hr hgd (sa_cons (se_pv 0) (sa_cons (se_pv 1) (sa_cons (se_pv 3) (sa_cons (se_pv 4) sa_nil))))) (sa_cons (se_ix (opIx rfl) vIx (se_ix (opIx rfl) vIx (se_pv 2) se_int) (se_pv 4)) (sa_cons (se_ix (opIx rfl) vIx (se_ix (opIx rfl) vIx (se_pv 2) se_int) (se_pv 3)) sa_nil))))))))))))⟩
theorem g_first_wrong {k : Nat} {f : Addr} {fd : FuncData} (F : Fun K "first_wrong" "first_wrong" s_first_wrong f fd) (M : Md K mg) {f_is_wrong_at : Addr} {fd_is_wrong_at : FuncData} (c_is_wrong_at : DL.Cal P w K mg base k "is_wrong_at" ["front", "back", "told", "weft", "warp"] m_is_wrong_at f_is_wrong_at fd_is_wrong_at) {f_told_by : Addr} {fd_told_by : FuncData} (c_told_by : DL.Cal P w K mg base k "told_by" ["front", "back", "colour"] m_told_by f_told_by fd_told_by) : FnG P w K mg base (k + 1) f fd ["front", "back", "colour"] m_first_wrong :=
  fnG_of F sc_first_wrong rfl fun cdv A outer s H hr hgd => ⟨_, (sss_cons (ss_set (i := 3) sc_first_wrong.nd (sv_d (sd_se (se_call (K := K) (ps := ["front", "back", "colour"]) (m := m_told_by) rfl c_told_by hr hgd (sa_cons (se_pv 0) (sa_cons (se_pv 1) (sa_cons (se_pv 2) sa_nil))))))) (sss_cons (ss_for PassesOwn.never rfl (si_rng1 M.z_range (sa_cons (se_cb (crLen rfl) vLen M.z_len bt_len (sa_cons (se_pv 0) sa_nil)) sa_nil)) (sg_name (i := 4) sc_first_wrong.nd) (sss_one (ss_for PassesOwn.never rfl (si_rng1 M.z_range (sa_cons (se_cb (crLen rfl) vLen M.z_len bt_len (sa_cons (se_ix (opIx rfl) vIx (se_pv 0) se_int) sa_nil)) sa_nil)) (sg_name (i := 5) sc_first_wrong.nd) (sss_one (ss_if (st_val (se_call (K := K) (ps := ["front", "back", "told", "weft", "warp"]) (m := m_is_wrong_at) rfl c_is_wrong_at hr hgd (sa_cons (se_pv 0) (sa_cons (se_pv 1) (sa_cons (se_pv 3) (sa_cons (se_pv 4) (sa_cons (se_pv 5) sa_nil))))))) (sss_one (ss_ret (sv_d (sd_se (se_tup (sa_cons (se_pv 4) (sa_cons (se_pv 5) sa_nil))))))) sss_nil))))) (sss_one (ss_ret (sv_d (sd_se se_non))))))⟩
theorem g_starts_of {k : Nat} {f : Addr} {fd : FuncData} (F : Fun K "starts_of" "starts_of" s_starts_of f fd) (M : Md K mg) {f_both_at : Addr} {fd_both_at : FuncData} (c_both_at : DL.Cal P w K mg base k "both_at" ["front", "back", "weft", "warp"] m_both_at f_both_at fd_both_at) : FnG P w K mg base (k + 1) f fd ["front", "back"] m_starts_of :=
  fnG_of F sc_starts_of rfl fun cdv A outer s H hr hgd => ⟨_, (sss_one (ss_ret (sv_l (sl_sdc [("colour", 2)] [2] rfl sc_starts_of.nd M.z_sorted bt_sorted (si_seq rfl (sd_se (se_call (K := K) (ps := ["front", "back", "weft", "warp"]) (m := m_both_at) rfl c_both_at hr hgd (sa_cons (se_pv 0) (sa_cons (se_pv 1) (sa_cons se_int (sa_cons se_int sa_nil))))))) (by kernel_rfl) (fun _ _ _ _ _ => (sg_name (i := 2) sc_starts_of.nd)) (fun _ _ _ _ _ => (sd_se (se_pv 2)))))))⟩
theorem g_side_bar {k : Nat} {f : Addr} {fd : FuncData} (F : Fun K "side_bar" "side_bar" s_side_bar f fd) (M : Md K mg) {f_starts_of : Addr} {fd_starts_of : FuncData} (c_starts_of : DL.Cal P w K mg base k "starts_of" ["front", "back"] m_starts_of f_starts_of fd_starts_of) {f_first_wrong : Addr} {fd_first_wrong : FuncData} (c_first_wrong : DL.Cal P w K mg base k "first_wrong" ["front", "back", "colour"] m_first_wrong f_first_wrong fd_first_wrong) {f_want_both : Addr} {fd_want_both : FuncData} (c_want_both : DL.Cal P w K mg base k "want_both" ["front", "back"] m_want_both f_want_both fd_want_both) : FnG P w K mg base (k + 1) f fd ["front", "back"] m_side_bar :=
  fnG_of F sc_side_bar rfl fun cdv A outer s H hr hgd => ⟨_, (sss_cons (ss_expr (se_call (K := K) (ps := ["front", "back"]) (m := m_want_both) rfl c_want_both hr hgd (sa_cons (se_pv 0) (sa_cons (se_pv 1) sa_nil)))) (sss_cons (ss_setLc (i := 2) true [("colour", 3)] [3] rfl sc_side_bar.nd (si_seq rfl (sd_se (se_call (K := K) (ps := ["front", "back"]) (m := m_starts_of) rfl c_starts_of hr hgd (sa_cons (se_pv 0) (sa_cons (se_pv 1) sa_nil))))) (by kernel_rfl) (fun _ _ _ _ _ => (sg_name (i := 3) sc_side_bar.nd)) (fun _ _ _ _ _ => sts_nil) (fun _ _ _ _ _ => (sd_se (se_tup (sa_cons (se_pv 3) (sa_cons (se_call (K := K) (ps := ["front", "back", "colour"]) (m := m_first_wrong) rfl c_first_wrong hr hgd (sa_cons (se_pv 0) (sa_cons (se_pv 1) (sa_cons (se_pv 3) sa_nil)))) sa_nil))))) (sw_true rfl rfl rfl rfl)) (sss_one (ss_ret (sv_d (sd_se (se_if (st_val (se_cb (crAny rfl rfl) vAny M.z_any bt_any (sa_cons (se_sl (sl_lc [("colour", 3), ("cell", 4)] [3, 4] rfl sc_side_bar.nd (si_seq rfl (sd_se (se_pv 2))) (by kernel_rfl) (fun _ _ _ _ _ => (sg_tup rfl rfl (sgs_cons (sg_name (i := 3) sc_side_bar.nd) (sgs_cons (sg_name (i := 4) sc_side_bar.nd) sgs_nil)))) (fun _ _ _ _ _ => sts_nil) (fun _ _ _ _ _ => (sd_se (se_cmp opIs vIs (se_pv 4) se_non))))) sa_nil))) se_non (se_pv 2))))))))⟩
theorem g_is_list {k : Nat} {f : Addr} {fd : FuncData} (F : Fun K "is_list" "is_list" s_is_list f fd) (M : Md K mg) : FnG P w K mg base (k + 1) f fd ["value"] m_is_list :=
  fnG_of F sc_is_list rfl fun cdv A outer s H hr hgd => ⟨_, (sss_one (ss_ret (sv_d (sd_se (se_isi2 (T := .list) (U := .tuple) rfl nofun nofun M.z_isinstance M.z_list bt_list M.z_tuple bt_tuple (se_pv 0))))))⟩
theorem g_is_tuple {k : Nat} {f : Addr} {fd : FuncData} (F : Fun K "is_tuple" "is_tuple" s_is_tuple f fd) (M : Md K mg) : FnG P w K mg base (k + 1) f fd ["value", "many"] m_is_tuple :=
  fnG_of F sc_is_tuple rfl fun cdv A outer s H hr hgd => ⟨_, (sss_one (ss_ret (sv_d (sd_se (se_and (se_isi (T := .tuple) rfl nofun M.z_isinstance M.z_tuple bt_tuple (se_pv 0)) (se_one (se_cmp (opEq rfl hr) vEq (se_cb (crLen rfl) vLen M.z_len bt_len (sa_cons (se_pv 0) sa_nil)) (se_pv 1))))))))⟩
theorem g_many_warps {k : Nat} {f : Addr} {fd : FuncData} (F : Fun K "many_warps" "many_warps" s_many_warps f fd) (M : Md K mg) : FnG P w K mg base (k + 1) f fd ["draft"] m_many_warps :=
  fnG_of F sc_many_warps rfl fun cdv A outer s H hr hgd => ⟨_, (sss_one (ss_ret (sv_d (sd_se (se_cb (crLen rfl) vLen M.z_len bt_len (sa_cons (se_ix (opIx rfl) vIx (se_ix (opIx rfl) vIx (se_pv 0) se_int) se_int) sa_nil))))))⟩
theorem g_many_wefts {k : Nat} {f : Addr} {fd : FuncData} (F : Fun K "many_wefts" "many_wefts" s_many_wefts f fd) (M : Md K mg) : FnG P w K mg base (k + 1) f fd ["draft"] m_many_wefts :=
  fnG_of F sc_many_wefts rfl fun cdv A outer s H hr hgd => ⟨_, (sss_one (ss_ret (sv_d (sd_se (se_cb (crLen rfl) vLen M.z_len bt_len (sa_cons (se_ix (opIx rfl) vIx (se_pv 0) se_int) sa_nil))))))⟩
theorem g_is_cell_of {k : Nat} {f : Addr} {fd : FuncData} (F : Fun K "is_cell_of" "is_cell_of" s_is_cell_of f fd) (M : Md K mg) {f_is_within : Addr} {fd_is_within : FuncData} (c_is_within : DL.Cal P w K mg base k "is_within" ["value", "least", "most"] m_is_within f_is_within fd_is_within) {f_many_warps : Addr} {fd_many_warps : FuncData} (c_many_warps : DL.Cal P w K mg base k "many_warps" ["draft"] m_many_warps f_many_warps fd_many_warps) {f_many_wefts : Addr} {fd_many_wefts : FuncData} (c_many_wefts : DL.Cal P w K mg base k "many_wefts" ["draft"] m_many_wefts f_many_wefts fd_many_wefts) {f_is_tuple : Addr} {fd_is_tuple : FuncData} (c_is_tuple : DL.Cal P w K mg base k "is_tuple" ["value", "many"] m_is_tuple f_is_tuple fd_is_tuple) : FnG P w K mg base (k + 1) f fd ["draft", "value"] m_is_cell_of :=
  fnG_of F sc_is_cell_of rfl fun cdv A outer s H hr hgd => ⟨_, (sss_cons (ss_if (st_sw (sw_or (st_not (st_val (se_call (K := K) (ps := ["value", "many"]) (m := m_is_tuple) rfl c_is_tuple hr hgd (sa_cons (se_pv 1) (sa_cons se_int sa_nil))))) (sw_or1 (st_not (st_val (se_call (K := K) (ps := ["value", "least", "most"]) (m := m_is_within) rfl c_is_within hr hgd (sa_cons (se_ix (opIx rfl) vIx (se_pv 1) se_int) (sa_cons se_int (sa_cons (se_bin op_sub vSub (se_call (K := K) (ps := ["draft"]) (m := m_many_wefts) rfl c_many_wefts hr hgd (sa_cons (se_pv 0) sa_nil)) se_int) sa_nil))))))))) (sss_one (ss_ret (sv_d (sd_se se_bl)))) sss_nil) (sss_one (ss_ret (sv_d (sd_se (se_call (K := K) (ps := ["value", "least", "most"]) (m := m_is_within) rfl c_is_within hr hgd (sa_cons (se_ix (opIx rfl) vIx (se_pv 1) se_int) (sa_cons se_int (sa_cons (se_bin op_sub vSub (se_call (K := K) (ps := ["draft"]) (m := m_many_warps) rfl c_many_warps hr hgd (sa_cons (se_pv 0) sa_nil)) se_int) sa_nil)))))))))⟩
theorem g_is_count {k : Nat} {f : Addr} {fd : FuncData} (F : Fun K "is_count" "is_count" s_is_count f fd) (M : Md K mg) {f_is_integer : Addr} {fd_is_integer : FuncData} (c_is_integer : DL.Cal P w K mg base k "is_integer" ["value"] m_is_integer f_is_integer fd_is_integer) : FnG P w K mg base (k + 1) f fd ["value"] m_is_count :=
  fnG_of F sc_is_count rfl fun cdv A outer s H hr hgd => ⟨_, (sss_one (ss_ret (sv_d (sd_se (se_and (se_call (K := K) (ps := ["value"]) (m := m_is_integer) rfl c_is_integer hr hgd (sa_cons (se_pv 0) sa_nil)) (se_one (se_cmp op_ge vGe (se_pv 0) se_int)))))))⟩
theorem g_is_side_bar {k : Nat} {f : Addr} {fd : FuncData} (F : Fun K "is_side_bar" "is_side_bar" s_is_side_bar f fd) (M : Md K mg) {f_is_wrong_at : Addr} {fd_is_wrong_at : FuncData} (c_is_wrong_at : DL.Cal P w K mg base k "is_wrong_at" ["front", "back", "told", "weft", "warp"] m_is_wrong_at f_is_wrong_at fd_is_wrong_at) {f_told_by : Addr} {fd_told_by : FuncData} (c_told_by : DL.Cal P w K mg base k "told_by" ["front", "back", "colour"] m_told_by f_told_by fd_told_by) {f_is_cell_of : Addr} {fd_is_cell_of : FuncData} (c_is_cell_of : DL.Cal P w K mg base k "is_cell_of" ["draft", "value"] m_is_cell_of f_is_cell_of fd_is_cell_of) {f_starts_of : Addr} {fd_starts_of : FuncData} (c_starts_of : DL.Cal P w K mg base k "starts_of" ["front", "back"] m_starts_of f_starts_of fd_starts_of) {f_is_count : Addr} {fd_is_count : FuncData} (c_is_count : DL.Cal P w K mg base k "is_count" ["value"] m_is_count f_is_count fd_is_count) {f_is_tuple : Addr} {fd_is_tuple : FuncData} (c_is_tuple : DL.Cal P w K mg base k "is_tuple" ["value", "many"] m_is_tuple f_is_tuple fd_is_tuple) {f_is_list : Addr} {fd_is_list : FuncData} (c_is_list : DL.Cal P w K mg base k "is_list" ["value"] m_is_list f_is_list fd_is_list) {f_want_both : Addr} {fd_want_both : FuncData} (c_want_both : DL.Cal P w K mg base k "want_both" ["front", "back"] m_want_both f_want_both fd_want_both) : FnG P w K mg base (k + 1) f fd ["front", "back", "value"] m_is_side_bar :=
  fnG_of F sc_is_side_bar rfl fun cdv A outer s H hr hgd => ⟨_, (sss_cons (ss_expr (se_call (K := K) (ps := ["front", "back"]) (m := m_want_both) rfl c_want_both hr hgd (sa_cons (se_pv 0) (sa_cons (se_pv 1) sa_nil)))) (sss_cons (ss_if (st_sw (sw_or (st_not (st_val (se_call (K := K) (ps := ["value"]) (m := m_is_list) rfl c_is_list hr hgd (sa_cons (se_pv 2) sa_nil)))) (sw_or1 (st_not (st_val (se_cb (crAll rfl rfl) vAll M.z_all bt_all (sa_cons (se_sl (sl_lc [("one", 3)] [3] rfl sc_is_side_bar.nd (si_seq rfl (sd_se (se_pv 2))) (by kernel_rfl) (fun _ _ _ _ _ => (sg_name (i := 3) sc_is_side_bar.nd)) (fun _ _ _ _ _ => sts_nil) (fun _ _ _ _ _ => (sd_se (se_and (se_call (K := K) (ps := ["value", "many"]) (m := m_is_tuple) rfl c_is_tuple hr hgd (sa_cons (se_pv 3) (sa_cons se_int sa_nil))) (se_one (se_call (K := K) (ps := ["value"]) (m := m_is_count) rfl c_is_count hr hgd (sa_cons (se_ix (opIx rfl) vIx (se_pv 3) se_int) sa_nil)))))))) sa_nil))))))) (sss_one (ss_ret (sv_d (sd_se se_bl)))) sss_nil) (sss_cons (ss_if (st_cmp (opNe rfl hr) vNe (se_sl (sl_lc [("one", 3)] [3] rfl sc_is_side_bar.nd (si_seq rfl (sd_se (se_pv 2))) (by kernel_rfl) (fun _ _ _ _ _ => (sg_name (i := 3) sc_is_side_bar.nd)) (fun _ _ _ _ _ => sts_nil) (fun _ _ _ _ _ => (sd_se (se_ix (opIx rfl) vIx (se_pv 3) se_int))))) (se_call (K := K) (ps := ["front", "back"]) (m := m_starts_of) rfl c_starts_of hr hgd (sa_cons (se_pv 0) (sa_cons (se_pv 1) sa_nil)))) (sss_one (ss_ret (sv_d (sd_se se_bl)))) sss_nil) (sss_cons (ss_if (st_not (st_val (se_cb (crAll rfl rfl) vAll M.z_all bt_all (sa_cons (se_sl (sl_lc [("one", 3)] [3] rfl sc_is_side_bar.nd (si_seq rfl (sd_se (se_pv 2))) (by kernel_rfl) (fun _ _ _ _ _ => (sg_name (i := 3) sc_is_side_bar.nd)) (fun _ _ _ _ _ => sts_nil) (fun _ _ _ _ _ => (sd_se (se_call (K := K) (ps := ["draft", "value"]) (m := m_is_cell_of) rfl c_is_cell_of hr hgd (sa_cons (se_tup (sa_cons se_str (sa_cons (se_pv 0) sa_nil))) (sa_cons (se_ix (opIx rfl) vIx (se_pv 3) se_int) sa_nil))))))) sa_nil)))) (sss_one (ss_ret (sv_d (sd_se se_bl)))) sss_nil) (sss_one (ss_ret (sv_d (sd_se (se_cb (crAll rfl rfl) vAll M.z_all bt_all (sa_cons (se_sl (sl_lc [("one", 3)] [3] rfl sc_is_side_bar.nd (si_seq rfl (sd_se (se_pv 2))) (by kernel_rfl) (fun _ _ _ _ _ => (sg_name (i := 3) sc_is_side_bar.nd)) (fun _ _ _ _ _ => sts_nil) (fun _ _ _ _ _ => (sd_se (se_call (K := K) (ps := ["front", "back", "told", "weft", "warp"]) (m := m_is_wrong_at) rfl c_is_wrong_at hr hgd (sa_cons (se_pv 0) (sa_cons (se_pv 1) (sa_cons (se_call (K := K) (ps := ["front", "back", "colour"]) (m := m_told_by) rfl c_told_by hr hgd (sa_cons (se_pv 0) (sa_cons (se_pv 1) (sa_cons (se_ix (opIx rfl) vIx (se_pv 3) se_int) sa_nil)))) (sa_cons (se_ix (opIx rfl) vIx (se_ix (opIx rfl) vIx (se_pv 3) se_int) se_int) (sa_cons (se_ix (opIx rfl) vIx (se_ix (opIx rfl) vIx (se_pv 3) se_int) se_int) sa_nil)))))))))) sa_nil))))))))))⟩
theorem g__law_is_full {k : Nat} {f : Addr} {fd : FuncData} (F : Fun K "_law_is_full" "_law_is_full" s__law_is_full f fd) (M : Md K mg) : FnG P w K mg base (k + 1) f fd ["value"] m__law_is_full :=
  fnG_of F sc__law_is_full rfl fun cdv A outer s H hr hgd => ⟨_, (sss_cons (ss_if (st_sw (sw_or (st_not (st_val (se_isi (T := .tuple) rfl nofun M.z_isinstance M.z_tuple bt_tuple (se_pv 0)))) (sw_or1 (st_not (st_chain op_le vLe op_le vLe se_int (se_cb (crLen rfl) vLen M.z_len bt_len (sa_cons (se_pv 0) sa_nil)) se_int))))) (sss_one (ss_ret (sv_d (sd_se se_bl)))) sss_nil) (sss_cons (ss_if (st_not (st_val (se_cb (crAll rfl rfl) vAll M.z_all bt_all (sa_cons (se_sl (sl_lc [("row", 1)] [1] rfl sc__law_is_full.nd (si_seq rfl (sd_se (se_pv 0))) (by kernel_rfl) (fun _ _ _ _ _ => (sg_name (i := 1) sc__law_is_full.nd)) (fun _ _ _ _ _ => sts_nil) (fun _ _ _ _ _ => (sd_se (se_isi (T := .tuple) rfl nofun M.z_isinstance M.z_tuple bt_tuple (se_pv 1)))))) sa_nil)))) (sss_one (ss_ret (sv_d (sd_se se_bl)))) sss_nil) (sss_cons (ss_if (st_not (st_val (se_cb (crAll rfl rfl) vAll M.z_all bt_all (sa_cons (se_sl (sl_lc [("row", 1)] [1] rfl sc__law_is_full.nd (si_seq rfl (sd_se (se_pv 0))) (by kernel_rfl) (fun _ _ _ _ _ => (sg_name (i := 1) sc__law_is_full.nd)) (fun _ _ _ _ _ => sts_nil) (fun _ _ _ _ _ => (sd_se (se_and (se_chain op_le vLe op_le vLe se_int (se_cb (crLen rfl) vLen M.z_len bt_len (sa_cons (se_pv 1) sa_nil)) se_int) (se_one (se_cmp (opEq rfl hr) vEq (se_cb (crLen rfl) vLen M.z_len bt_len (sa_cons (se_pv 1) sa_nil)) (se_cb (crLen rfl) vLen M.z_len bt_len (sa_cons (se_ix (opIx rfl) vIx (se_pv 0) se_int) sa_nil))))))))) sa_nil)))) (sss_one (ss_ret (sv_d (sd_se se_bl)))) sss_nil) (sss_one (ss_ret (sv_d (sd_se (se_cb (crAll rfl rfl) vAll M.z_all bt_all (sa_cons (se_sl (sl_lc [("row", 1)] [1] rfl sc__law_is_full.nd (si_seq rfl (sd_se (se_pv 0))) (by kernel_rfl) (fun _ _ _ _ _ => (sg_name (i := 1) sc__law_is_full.nd)) (fun _ _ _ _ _ => sts_nil) (fun _ _ _ _ _ => (sd_se (se_cb (crAll rfl rfl) vAll M.z_all bt_all (sa_cons (se_sl (sl_lc [("one", 2)] [2] rfl sc__law_is_full.nd (si_seq rfl (sd_se (se_pv 1))) (by kernel_rfl) (fun _ _ _ _ _ => (sg_name (i := 2) sc__law_is_full.nd)) (fun _ _ _ _ _ => sts_nil) (fun _ _ _ _ _ => (sd_se (se_cmp (opIn rfl hr) vIn (se_cb (crRepr rfl hgd hr) vRepr M.z_repr bt_repr (sa_cons (se_pv 2) sa_nil)) (se_sl (sl_lst (sa_cons se_str (sa_cons se_str (sa_cons se_str (sa_cons se_str (sa_cons se_str (sa_cons se_str (sa_cons se_str (sa_cons se_str sa_nil))))))))))))))) sa_nil)))))) sa_nil)))))))))⟩
theorem g__law_pick {k : Nat} {f : Addr} {fd : FuncData} (F : Fun K "_law_pick" "_law_pick" s__law_pick f fd) (M : Md K mg) {f__law_draw : Addr} {fd__law_draw : FuncData} (c__law_draw : DL.Cal P w K mg base k "_law_draw" ["pot", "many"] m__law_draw f__law_draw fd__law_draw) : FnG P w K mg base (k + 1) f fd ["pot", "some"] m__law_pick :=
  fnG_of F sc__law_pick rfl fun cdv A outer s H hr hgd => ⟨_, (sss_one (ss_ret (sv_d (sd_se (se_ix (opIx rfl) vIx (se_pv 1) (se_call (K := K) (ps := ["pot", "many"]) (m := m__law_draw) rfl c__law_draw hr hgd (sa_cons (se_pv 0) (sa_cons (se_cb (crLen rfl) vLen M.z_len bt_len (sa_cons (se_pv 1) sa_nil)) sa_nil))))))))⟩
theorem g__law_bent {k : Nat} {f : Addr} {fd : FuncData} (F : Fun K "_law_bent" "_law_bent" s__law_bent f fd) (M : Md K mg) {f__law_pick : Addr} {fd__law_pick : FuncData} (c__law_pick : DL.Cal P w K mg base k "_law_pick" ["pot", "some"] m__law_pick f__law_pick fd__law_pick) {f__law_draw : Addr} {fd__law_draw : FuncData} (c__law_draw : DL.Cal P w K mg base k "_law_draw" ["pot", "many"] m__law_draw f__law_draw fd__law_draw) : FnG P w K mg base (k + 1) f fd ["pot", "front", "told"] m__law_bent :=
  fnG_of F sc__law_bent rfl fun cdv A outer s H hr hgd => ⟨_, (sss_cons (ss_set (i := 3) sc__law_bent.nd (sv_d (sd_se (se_call (K := K) (ps := ["pot", "many"]) (m := m__law_draw) rfl c__law_draw hr hgd (sa_cons (se_pv 0) (sa_cons (se_cb (crLen rfl) vLen M.z_len bt_len (sa_cons (se_pv 2) sa_nil)) sa_nil)))))) (sss_cons (ss_asg (sd_se (se_ix (opIx rfl) vIx (se_pv 2) (se_pv 3))) (sg_tup rfl rfl (sgs_cons (sg_name (i := 4) sc__law_bent.nd) (sgs_cons (sg_name (i := 5) sc__law_bent.nd) sgs_nil)))) (sss_cons (ss_set (i := 6) sc__law_bent.nd (sv_d (sd_se (se_call (K := K) (ps := ["pot", "some"]) (m := m__law_pick) rfl c__law_pick hr hgd (sa_cons (se_pv 0) (sa_cons (se_sl (sl_lst (sa_cons se_non (sa_cons se_bl (sa_cons se_int (sa_cons se_int (sa_cons se_str (sa_cons (se_tup sa_nil) (sa_cons (se_tup (sa_cons se_int sa_nil)) (sa_cons (se_sl (sl_lst (sa_cons se_int (sa_cons se_int sa_nil)))) (sa_cons (se_tup (sa_cons se_int (sa_cons se_int (sa_cons se_int sa_nil)))) (sa_cons (se_tup (sa_cons se_bl (sa_cons se_int sa_nil))) (sa_cons (se_tup (sa_cons se_int (sa_cons (se_un un_neg vNeg se_int) sa_nil))) (sa_cons (se_tup (sa_cons se_int (sa_cons se_int sa_nil))) sa_nil)))))))))))))) sa_nil)))))) (sss_cons (ss_set (i := 7) sc__law_bent.nd (sv_d (sd_se (se_tup (sa_cons (se_call (K := K) (ps := ["pot", "many"]) (m := m__law_draw) rfl c__law_draw hr hgd (sa_cons (se_pv 0) (sa_cons (se_cb (crLen rfl) vLen M.z_len bt_len (sa_cons (se_pv 1) sa_nil)) sa_nil))) (sa_cons (se_call (K := K) (ps := ["pot", "many"]) (m := m__law_draw) rfl c__law_draw hr hgd (sa_cons (se_pv 0) (sa_cons (se_cb (crLen rfl) vLen M.z_len bt_len (sa_cons (se_ix (opIx rfl) vIx (se_pv 1) se_int) sa_nil)) sa_nil))) sa_nil)))))) (sss_cons (ss_set (i := 8) sc__law_bent.nd (sv_l (sl_lst (sa_cons (se_tup (sa_cons (se_pv 4) (sa_cons (se_pv 7) sa_nil))) (sa_cons (se_tup (sa_cons (se_pv 4) (sa_cons (se_pv 7) sa_nil))) (sa_cons (se_tup (sa_cons (se_call (K := K) (ps := ["pot", "many"]) (m := m__law_draw) rfl c__law_draw hr hgd (sa_cons (se_pv 0) (sa_cons se_int sa_nil))) (sa_cons (se_pv 5) sa_nil))) (sa_cons (se_tup (sa_cons (se_pv 4) (sa_cons (se_pv 6) sa_nil))) (sa_cons (se_tup (sa_cons (se_pv 6) (sa_cons (se_pv 5) sa_nil))) (sa_cons (se_sl (sl_lst (sa_cons (se_pv 4) (sa_cons (se_pv 5) sa_nil)))) sa_nil))))))))) (sss_cons (ss_expr (se_append rfl (se_pv 8) (sa_cons (se_tup (sa_cons (se_pv 4) sa_nil)) sa_nil))) (sss_cons (ss_set (i := 9) sc__law_bent.nd (sv_d (sd_se (se_bin (opAdd rfl) vAdd (se_bin (opAdd rfl) vAdd (se_slice rfl (se_pv 2) so_none (so_some (se_pv 3))) (se_sl (sl_lst (sa_cons (se_call (K := K) (ps := ["pot", "some"]) (m := m__law_pick) rfl c__law_pick hr hgd (sa_cons (se_pv 0) (sa_cons (se_sd (sd_se (se_pv 8))) sa_nil))) sa_nil)))) (se_slice rfl (se_pv 2) (so_some (se_bin (opAdd rfl) vAdd (se_pv 3) se_int)) so_none))))) (sss_cons (ss_set (i := 8) sc__law_bent.nd (sv_l (sl_lst (sa_cons (se_pv 9) (sa_cons (se_pv 9) (sa_cons (se_pv 9) (sa_cons (se_bin (opAdd rfl) vAdd (se_slice rfl (se_pv 2) so_none (so_some (se_pv 3))) (se_slice rfl (se_pv 2) (so_some (se_bin (opAdd rfl) vAdd (se_pv 3) se_int)) so_none)) (sa_cons (se_bin (opAdd rfl) vAdd (se_pv 2) (se_slice rfl (se_pv 2) so_none (so_some se_int))) (sa_cons (se_rev rfl (se_pv 2)) (sa_cons (se_ct (crTuple rfl) vTuple M.z_tuple bt_tuple (sa_cons (se_pv 2) sa_nil)) (sa_cons (se_pv 6) sa_nil))))))))))) (sss_one (ss_ret (sv_d (sd_se (se_call (K := K) (ps := ["pot", "some"]) (m := m__law_pick) rfl c__law_pick hr hgd (sa_cons (se_pv 0) (sa_cons (se_sd (sd_se (se_pv 8))) sa_nil)))))))))))))))⟩
theorem g__law_other {k : Nat} {f : Addr} {fd : FuncData} (F : Fun K "_law_other" "_law_other" s__law_other f fd) (M : Md K mg) : FnG P w K mg base (k + 1) f fd ["near", "far", "colour"] m__law_other :=
  fnG_of F sc__law_other rfl fun cdv A outer s H hr hgd => ⟨_, (sss_one (ss_ret (sv_d (sd_se (se_if (st_cmp (opEq rfl hr) vEq (se_pv 2) (se_pv 0)) (se_pv 1) (se_if (st_cmp (opEq rfl hr) vEq (se_pv 2) (se_pv 1)) (se_pv 0) se_non))))))⟩
theorem g__law_is_wrong {k : Nat} {f : Addr} {fd : FuncData} (F : Fun K "_law_is_wrong" "_law_is_wrong" s__law_is_wrong f fd) (M : Md K mg) {f__law_other : Addr} {fd__law_other : FuncData} (c__law_other : DL.Cal P w K mg base k "_law_other" ["near", "far", "colour"] m__law_other f__law_other fd__law_other) : FnG P w K mg base (k + 1) f fd ["front", "back", "colour", "cell"] m__law_is_wrong :=
  fnG_of F sc__law_is_wrong rfl fun cdv A outer s H hr hgd => ⟨_, (sss_cons (ss_asg (sd_se (se_pv 3)) (sg_tup rfl rfl (sgs_cons (sg_name (i := 4) sc__law_is_wrong.nd) (sgs_cons (sg_name (i := 5) sc__law_is_wrong.nd) sgs_nil)))) (sss_cons (ss_set (i := 6) sc__law_is_wrong.nd (sv_d (sd_se (se_call (K := K) (ps := ["near", "far", "colour"]) (m := m__law_other) rfl c__law_other hr hgd (sa_cons (se_ix (opIx rfl) vIx (se_ix (opIx rfl) vIx (se_pv 0) se_int) se_int) (sa_cons (se_ix (opIx rfl) vIx (se_ix (opIx rfl) vIx (se_pv 1) se_int) se_int) (sa_cons (se_pv 2) sa_nil))))))) (sss_cons (ss_set (i := 7) sc__law_is_wrong.nd (sv_d (sd_se (se_call (K := K) (ps := ["near", "far", "colour"]) (m := m__law_other) rfl c__law_other hr hgd (sa_cons (se_ix (opIx rfl) vIx (se_ix (opIx rfl) vIx (se_pv 0) (se_pv 4)) se_int) (sa_cons (se_ix (opIx rfl) vIx (se_ix (opIx rfl) vIx (se_pv 1) (se_pv 4)) se_int) (sa_cons (se_pv 2) sa_nil))))))) (sss_cons (ss_if (st_cmp (opEq rfl hr) vEq (se_pv 5) se_int) (sss_one (ss_ret (sv_d (sd_se (se_cmp opIs vIs (se_pv 7) se_non))))) sss_nil) (sss_cons (ss_set (i := 8) sc__law_is_wrong.nd (sv_d (sd_se (se_call (K := K) (ps := ["near", "far", "colour"]) (m := m__law_other) rfl c__law_other hr hgd (sa_cons (se_ix (opIx rfl) vIx (se_ix (opIx rfl) vIx (se_pv 0) se_int) (se_pv 5)) (sa_cons (se_ix (opIx rfl) vIx (se_ix (opIx rfl) vIx (se_pv 1) se_int) (se_pv 5)) (sa_cons (se_pv 6) sa_nil))))))) (sss_cons (ss_if (st_sw (sw_or (st_cmp (opEq rfl hr) vEq (se_pv 4) se_int) (sw_or (st_cmp opIs vIs (se_pv 7) se_non) (sw_or1 (st_cmp opIs vIs (se_pv 8) se_non))))) (sss_one (ss_ret (sv_d (sd_se (se_and (se_cmp (opEq rfl hr) vEq (se_pv 4) se_int) (se_one (se_cmp opIs vIs (se_pv 8) se_non))))))) sss_nil) (sss_one (ss_ret (sv_d (sd_se (se_cmp (opNe rfl hr) vNe (se_sl (sl_cb (crSorted rfl) vSortedL M.z_sorted bt_sorted (sa_cons (se_sl (sl_lst (sa_cons (se_pv 7) (sa_cons (se_pv 8) sa_nil)))) sa_nil))) (se_sl (sl_cb (crSorted rfl) vSortedL M.z_sorted bt_sorted (sa_cons (se_sl (sl_lst (sa_cons (se_ix (opIx rfl) vIx (se_ix (opIx rfl) vIx (se_pv 0) (se_pv 4)) (se_pv 5)) (sa_cons (se_ix (opIx rfl) vIx (se_ix (opIx rfl) vIx (se_pv 1) (se_pv 4)) (se_pv 5)) sa_nil)))) sa_nil))))))))))))))⟩
theorem g__law_is_cell {k : Nat} {f : Addr} {fd : FuncData} (F : Fun K "_law_is_cell" "_law_is_cell" s__law_is_cell f fd) (M : Md K mg) : FnG P w K mg base (k + 1) f fd ["front", "value"] m__law_is_cell :=
  fnG_of F sc__law_is_cell rfl fun cdv A outer s H hr hgd => ⟨_, (sss_cons (ss_if (st_sw (sw_or (st_not (st_val (se_isi (T := .tuple) rfl nofun M.z_isinstance M.z_tuple bt_tuple (se_pv 1)))) (sw_or1 (st_cmp (opNe rfl hr) vNe (se_cb (crLen rfl) vLen M.z_len bt_len (sa_cons (se_pv 1) sa_nil)) se_int)))) (sss_one (ss_ret (sv_d (sd_se se_bl)))) sss_nil) (sss_cons (ss_if (st_not (st_val (se_cb (crAll rfl rfl) vAll M.z_all bt_all (sa_cons (se_sl (sl_lc [("one", 2)] [2] rfl sc__law_is_cell.nd (si_seq rfl (sd_se (se_pv 1))) (by kernel_rfl) (fun _ _ _ _ _ => (sg_name (i := 2) sc__law_is_cell.nd)) (fun _ _ _ _ _ => sts_nil) (fun _ _ _ _ _ => (sd_se (se_and (se_isi (T := .int) rfl nofun M.z_isinstance M.z_int bt_int (se_pv 2)) (se_one (se_not (se_isi (T := .bool) rfl nofun M.z_isinstance M.z_bool bt_bool (se_pv 2))))))))) sa_nil)))) (sss_one (ss_ret (sv_d (sd_se se_bl)))) sss_nil) (sss_one (ss_ret (sv_d (sd_se (se_and (se_chain op_le vLe op_lt vLt se_int (se_ix (opIx rfl) vIx (se_pv 1) se_int) (se_cb (crLen rfl) vLen M.z_len bt_len (sa_cons (se_pv 0) sa_nil))) (se_one (se_chain op_le vLe op_lt vLt se_int (se_ix (opIx rfl) vIx (se_pv 1) se_int) (se_cb (crLen rfl) vLen M.z_len bt_len (sa_cons (se_ix (opIx rfl) vIx (se_pv 0) se_int) sa_nil)))))))))))⟩
theorem g__law_is_bar {k : Nat} {f : Addr} {fd : FuncData} (F : Fun K "_law_is_bar" "_law_is_bar" s__law_is_bar f fd) (M : Md K mg) {f__law_is_wrong : Addr} {fd__law_is_wrong : FuncData} (c__law_is_wrong : DL.Cal P w K mg base k "_law_is_wrong" ["front", "back", "colour", "cell"] m__law_is_wrong f__law_is_wrong fd__law_is_wrong) {f__law_is_cell : Addr} {fd__law_is_cell : FuncData} (c__law_is_cell : DL.Cal P w K mg base k "_law_is_cell" ["front", "value"] m__law_is_cell f__law_is_cell fd__law_is_cell) : FnG P w K mg base (k + 1) f fd ["front", "back", "value"] m__law_is_bar :=
  fnG_of F sc__law_is_bar rfl fun cdv A outer s H hr hgd => ⟨_, (sss_cons (ss_if (st_sw (sw_or (st_not (st_val (se_isi2 (T := .list) (U := .tuple) rfl nofun nofun M.z_isinstance M.z_list bt_list M.z_tuple bt_tuple (se_pv 2)))) (sw_or1 (st_not (st_val (se_cb (crAll rfl rfl) vAll M.z_all bt_all (sa_cons (se_sl (sl_lc [("one", 6)] [6] rfl sc__law_is_bar.nd (si_seq rfl (sd_se (se_pv 2))) (by kernel_rfl) (fun _ _ _ _ _ => (sg_name (i := 6) sc__law_is_bar.nd)) (fun _ _ _ _ _ => sts_nil) (fun _ _ _ _ _ => (sd_se (se_and (se_isi (T := .tuple) rfl nofun M.z_isinstance M.z_tuple bt_tuple (se_pv 6)) (se_one (se_cmp (opEq rfl hr) vEq (se_cb (crLen rfl) vLen M.z_len bt_len (sa_cons (se_pv 6) sa_nil)) se_int))))))) sa_nil))))))) (sss_one (ss_ret (sv_d (sd_se se_bl)))) sss_nil) (sss_cons (ss_set (i := 3) sc__law_is_bar.nd (sv_d (sd_se (se_sl (sl_cb (crSorted rfl) vSortedL M.z_sorted bt_sorted (sa_cons (se_sl (sl_lst (sa_cons (se_ix (opIx rfl) vIx (se_ix (opIx rfl) vIx (se_pv 0) se_int) se_int) (sa_cons (se_ix (opIx rfl) vIx (se_ix (opIx rfl) vIx (se_pv 1) se_int) se_int) sa_nil)))) sa_nil)))))) (sss_cons (ss_set (i := 3) sc__law_is_bar.nd (sv_d (sd_se (se_if (st_cmp (opEq rfl hr) vEq (se_ix (opIx rfl) vIx (se_pv 3) se_int) (se_ix (opIx rfl) vIx (se_pv 3) se_int)) (se_slice rfl (se_pv 3) so_none (so_some se_int)) (se_pv 3))))) (sss_cons (ss_if (st_sw (sw_or (st_cmp (opNe rfl hr) vNe (se_cb (crRepr rfl hgd hr) vRepr M.z_repr bt_repr (sa_cons (se_sl (sl_lc [("one", 6)] [6] rfl sc__law_is_bar.nd (si_seq rfl (sd_se (se_pv 2))) (by kernel_rfl) (fun _ _ _ _ _ => (sg_name (i := 6) sc__law_is_bar.nd)) (fun _ _ _ _ _ => sts_nil) (fun _ _ _ _ _ => (sd_se (se_ix (opIx rfl) vIx (se_pv 6) se_int))))) sa_nil)) (se_cb (crRepr rfl hgd hr) vRepr M.z_repr bt_repr (sa_cons (se_pv 3) sa_nil))) (sw_or1 (st_not (st_val (se_cb (crAll rfl rfl) vAll M.z_all bt_all (sa_cons (se_sl (sl_lc [("one", 6)] [6] rfl sc__law_is_bar.nd (si_seq rfl (sd_se (se_pv 2))) (by kernel_rfl) (fun _ _ _ _ _ => (sg_name (i := 6) sc__law_is_bar.nd)) (fun _ _ _ _ _ => sts_nil) (fun _ _ _ _ _ => (sd_se (se_call (K := K) (ps := ["front", "value"]) (m := m__law_is_cell) rfl c__law_is_cell hr hgd (sa_cons (se_pv 0) (sa_cons (se_ix (opIx rfl) vIx (se_pv 6) se_int) sa_nil))))))) sa_nil))))))) (sss_one (ss_ret (sv_d (sd_se se_bl)))) sss_nil) (sss_one (ss_ret (sv_d (sd_se (se_cb (crAll rfl rfl) vAll M.z_all bt_all (sa_cons (se_sl (sl_lc [("colour", 4), ("cell", 5)] [4, 5] rfl sc__law_is_bar.nd (si_seq rfl (sd_se (se_pv 2))) (by kernel_rfl) (fun _ _ _ _ _ => (sg_tup rfl rfl (sgs_cons (sg_name (i := 4) sc__law_is_bar.nd) (sgs_cons (sg_name (i := 5) sc__law_is_bar.nd) sgs_nil)))) (fun _ _ _ _ _ => sts_nil) (fun _ _ _ _ _ => (sd_se (se_call (K := K) (ps := ["front", "back", "colour", "cell"]) (m := m__law_is_wrong) rfl c__law_is_wrong hr hgd (sa_cons (se_pv 0) (sa_cons (se_pv 1) (sa_cons (se_pv 4) (sa_cons (se_pv 5) sa_nil))))))))) sa_nil))))))))))⟩
theorem g_is_full {k : Nat} {f : Addr} {fd : FuncData} (F : Fun K "is_full" "is_full" s_is_full f fd) (M : Md K mg) {f_is_full_value : Addr} {fd_is_full_value : FuncData} (c_is_full_value : DL.Cal P w K mg base k "is_full_value" ["value"] m_is_full_value f_is_full_value fd_is_full_value) : FnG P w K mg base (k + 1) f fd ["value"] m_is_full :=
  fnG_of F sc_is_full rfl fun cdv A outer s H hr hgd => ⟨_, (sss_one (ss_ret (sv_d (sd_se (se_call (K := K) (ps := ["value"]) (m := m_is_full_value) rfl c_is_full_value hr hgd (sa_cons (se_pv 0) sa_nil))))))⟩
theorem g__law_right {k : Nat} {f : Addr} {fd : FuncData} (F : Fun K "_law_right" "_law_right" s__law_right f fd) (M : Md K mg) {f_is_side_bar : Addr} {fd_is_side_bar : FuncData} (c_is_side_bar : DL.Cal P w K mg base k "is_side_bar" ["front", "back", "value"] m_is_side_bar f_is_side_bar fd_is_side_bar) {f__law_is_bar : Addr} {fd__law_is_bar : FuncData} (c__law_is_bar : DL.Cal P w K mg base k "_law_is_bar" ["front", "back", "value"] m__law_is_bar f__law_is_bar fd__law_is_bar) {f__law_bent : Addr} {fd__law_bent : FuncData} (c__law_bent : DL.Cal P w K mg base k "_law_bent" ["pot", "front", "told"] m__law_bent f__law_bent fd__law_bent) {f_side_bar : Addr} {fd_side_bar : FuncData} (c_side_bar : DL.Cal P w K mg base k "side_bar" ["front", "back"] m_side_bar f_side_bar fd_side_bar) {f__law_both : Addr} {fd__law_both : FuncData} (c__law_both : DL.Cal P w K mg base k "_law_both" ["pot", "most", "wrong"] m__law_both f__law_both fd__law_both) {f__law_pictures : Addr} {fd__law_pictures : FuncData} (c__law_pictures : DL.Cal P w K mg base k "_law_pictures" ["pot"] m__law_pictures f__law_pictures fd__law_pictures) {f_is_full : Addr} {fd_is_full : FuncData} (c_is_full : DL.Cal P w K mg base k "is_full" ["value"] m_is_full f_is_full fd_is_full) {f__law_is_full : Addr} {fd__law_is_full : FuncData} (c__law_is_full : DL.Cal P w K mg base k "_law_is_full" ["value"] m__law_is_full f__law_is_full fd__law_is_full) (kb_is_full_0_value : KwB K fd_is_full ["value"] ["value"] [0]) (kb_is_side_bar_0_value_back_front : KwB K fd_is_side_bar ["front", "back", "value"] ["value", "back", "front"] [2, 1, 0]) : FnG P w K mg base (k + 1) f fd ["pot"] m__law_right :=
  fnG_of F sc__law_right rfl fun cdv A outer s H hr hgd => ⟨_, (sss_cons (ss_for PassesOwn.never rfl (si_seq rfl (sd_se (se_call (K := K) (ps := ["pot"]) (m := m__law_pictures) rfl c__law_pictures hr hgd (sa_cons (se_pv 0) sa_nil)))) (sg_name (i := 1) sc__law_right.nd) (sss_cons (ss_par (i := 2) (j := 3) rfl sc__law_right.nd (by decide) (sv_d (sd_se (se_call (K := K) (ps := ["value"]) (m := m__law_is_full) rfl c__law_is_full hr hgd (sa_cons (se_pv 1) sa_nil)))) (sv_d (sd_se (se_cb (crRepr rfl hgd hr) vRepr M.z_repr bt_repr (sa_cons (se_pv 1) sa_nil))))) (sss_one (ss_if (st_sw (sw_or (st_cmp (opNe rfl hr) vNe (se_cb (crRepr rfl hgd hr) vRepr M.z_repr bt_repr (sa_cons (se_sl (sl_lst (sa_cons (se_call (K := K) (ps := ["value"]) (m := m_is_full) rfl c_is_full hr hgd (sa_cons (se_pv 1) sa_nil)) (sa_cons (se_callK0 (K := K) (ps := ["value"]) (m := m_is_full) (ks := ["value"]) (pm := [0]) rfl c_is_full kb_is_full_0_value hr hgd (sk_cons (se_pv 1) sk_nil)) sa_nil)))) sa_nil)) (se_cb (crRepr rfl hgd hr) vRepr M.z_repr bt_repr (sa_cons (se_sl (sl_lst (sa_cons (se_pv 2) (sa_cons (se_pv 2) sa_nil)))) sa_nil))) (sw_or1 (st_cmp (opNe rfl hr) vNe (se_cb (crRepr rfl hgd hr) vRepr M.z_repr bt_repr (sa_cons (se_pv 1) sa_nil)) (se_pv 3))))) (sss_one (ss_ret (sv_d (sd_se se_bl)))) sss_nil)))) (sss_cons (ss_asg (sd_se (se_call (K := K) (ps := ["pot", "most", "wrong"]) (m := m__law_both) rfl c__law_both hr hgd (sa_cons (se_pv 0) (sa_cons se_int (sa_cons se_int sa_nil))))) (sg_tup rfl rfl (sgs_cons (sg_name (i := 4) sc__law_right.nd) (sgs_cons (sg_name (i := 5) sc__law_right.nd) sgs_nil)))) (sss_cons (ss_set (i := 6) sc__law_right.nd (sv_d (sd_se (se_call (K := K) (ps := ["front", "back"]) (m := m_side_bar) rfl c_side_bar hr hgd (sa_cons (se_pv 4) (sa_cons (se_pv 5) sa_nil)))))) (sss_cons (ss_set (i := 2) sc__law_right.nd (sv_d (sd_se (se_sl (sl_cb (crSorted rfl) vSortedL M.z_sorted bt_sorted (sa_cons (se_sl (sl_lst (sa_cons (se_ix (opIx rfl) vIx (se_ix (opIx rfl) vIx (se_pv 4) se_int) se_int) (sa_cons (se_ix (opIx rfl) vIx (se_ix (opIx rfl) vIx (se_pv 5) se_int) se_int) sa_nil)))) sa_nil)))))) (sss_cons (ss_if (st_cmp opIs vIs (se_pv 6) se_non) (sss_one (ss_set (i := 6) sc__law_right.nd (sv_d (sd_se (se_sl (sl_lc [("colour", 11)] [11] rfl sc__law_right.nd (si_seq rfl (sd_se (se_slice rfl (se_pv 2) so_none (so_some (se_if (st_cmp (opEq rfl hr) vEq (se_ix (opIx rfl) vIx (se_pv 2) se_int) (se_ix (opIx rfl) vIx (se_pv 2) se_int)) se_int se_int))))) (by kernel_rfl) (fun _ _ _ _ _ => (sg_name (i := 11) sc__law_right.nd)) (fun _ _ _ _ _ => sts_nil) (fun _ _ _ _ _ => (sd_se (se_tup (sa_cons (se_pv 11) (sa_cons (se_tup (sa_cons se_int (sa_cons se_int sa_nil))) sa_nil))))))))))) sss_nil) (sss_cons (ss_set (i := 7) sc__law_right.nd (sv_l (sl_bin (opAdd rfl) vAddL (se_sl (sl_lst (sa_cons (se_pv 6) (sa_cons (se_ct (crTuple rfl) vTuple M.z_tuple bt_tuple (sa_cons (se_pv 6) sa_nil)) (sa_cons se_non (sa_cons (se_sl (sl_lst sa_nil)) (sa_cons (se_tup sa_nil) (sa_cons se_dict0 (sa_cons se_int (sa_cons (se_sl (sl_lst (sa_cons se_non sa_nil))) sa_nil)))))))))) (se_sl (sl_lc [("turn", 12)] [12] rfl sc__law_right.nd (si_rng1 M.z_range (sa_cons se_int sa_nil)) (by kernel_rfl) (fun _ _ _ _ _ => (sg_name (i := 12) sc__law_right.nd)) (fun _ _ _ _ _ => sts_nil) (fun _ _ _ _ _ => (sd_se (se_call (K := K) (ps := ["pot", "front", "told"]) (m := m__law_bent) rfl c__law_bent hr hgd (sa_cons (se_pv 0) (sa_cons (se_pv 4) (sa_cons (se_pv 6) sa_nil))))))))))) (sss_cons (ss_for PassesOwn.never rfl (si_rng1 M.z_range (sa_cons (se_cb (crLen rfl) vLen M.z_len bt_len (sa_cons (se_pv 4) sa_nil)) sa_nil)) (sg_name (i := 8) sc__law_right.nd) (sss_one (ss_expr (se_extend rfl (se_pv 7) (sa_cons (se_sl (sl_lc [("warp", 13)] [13] rfl sc__law_right.nd (si_rng1 M.z_range (sa_cons (se_cb (crLen rfl) vLen M.z_len bt_len (sa_cons (se_ix (opIx rfl) vIx (se_pv 4) se_int) sa_nil)) sa_nil)) (by kernel_rfl) (fun _ _ _ _ _ => (sg_name (i := 13) sc__law_right.nd)) (fun _ _ _ _ _ => sts_nil) (fun _ _ _ _ _ => (sd_se (se_bin (opAdd rfl) vAdd (se_sl (sl_lst (sa_cons (se_tup (sa_cons (se_ix (opIx rfl) vIx (se_ix (opIx rfl) vIx (se_pv 6) se_int) se_int) (sa_cons (se_tup (sa_cons (se_pv 8) (sa_cons (se_pv 13) sa_nil))) sa_nil))) sa_nil))) (se_slice rfl (se_pv 6) (so_some se_int) so_none)))))) sa_nil))))) (sss_cons (ss_for PassesOwn.never rfl (si_seq rfl (sd_se (se_pv 7))) (sg_name (i := 1) sc__law_right.nd) (sss_cons (ss_par (i := 9) (j := 3) rfl sc__law_right.nd (by decide) (sv_d (sd_se (se_call (K := K) (ps := ["front", "back", "value"]) (m := m__law_is_bar) rfl c__law_is_bar hr hgd (sa_cons (se_pv 4) (sa_cons (se_pv 5) (sa_cons (se_pv 1) sa_nil)))))) (sv_d (sd_se (se_cb (crRepr rfl hgd hr) vRepr M.z_repr bt_repr (sa_cons (se_pv 1) sa_nil))))) (sss_cons (ss_set (i := 10) sc__law_right.nd (sv_d (sd_se (se_callK0 (K := K) (ps := ["front", "back", "value"]) (m := m_is_side_bar) (ks := ["value", "back", "front"]) (pm := [2, 1, 0]) rfl c_is_side_bar kb_is_side_bar_0_value_back_front hr hgd (sk_cons (se_pv 1) (sk_cons (se_pv 5) (sk_cons (se_pv 4) sk_nil))))))) (sss_one (ss_if (st_sw (sw_or (st_cmp (opNe rfl hr) vNe (se_cb (crRepr rfl hgd hr) vRepr M.z_repr bt_repr (sa_cons (se_sl (sl_lst (sa_cons (se_call (K := K) (ps := ["front", "back", "value"]) (m := m_is_side_bar) rfl c_is_side_bar hr hgd (sa_cons (se_pv 4) (sa_cons (se_pv 5) (sa_cons (se_pv 1) sa_nil)))) (sa_cons (se_pv 10) sa_nil)))) sa_nil)) (se_cb (crRepr rfl hgd hr) vRepr M.z_repr bt_repr (sa_cons (se_sl (sl_lst (sa_cons (se_pv 9) (sa_cons (se_pv 9) sa_nil)))) sa_nil))) (sw_or1 (st_cmp (opNe rfl hr) vNe (se_cb (crRepr rfl hgd hr) vRepr M.z_repr bt_repr (sa_cons (se_pv 1) sa_nil)) (se_pv 3))))) (sss_one (ss_ret (sv_d (sd_se se_bl)))) sss_nil))))) (sss_one (ss_ret (sv_d (sd_se se_bl))))))))))))⟩
theorem g__law_pot {k : Nat} {f : Addr} {fd : FuncData} (F : Fun K "_law_pot" "_law_pot" s__law_pot f fd) (M : Md K mg) : FnG P w K mg base (k + 1) f fd ["script", "k"] m__law_pot :=
  fnG_of F sc__law_pot rfl fun cdv A outer s H hr hgd => ⟨_, (sss_cons (ss_set (i := 2) sc__law_pot.nd (sv_d (sd_se (se_bin (opAdd rfl) vAdd (se_bin (opMulX rfl) vMulX se_int (se_pv 1)) se_int)))) (sss_cons (ss_if (st_cmp op_lt vLt (se_pv 1) (se_cb (crLen rfl) vLen M.z_len bt_len (sa_cons (se_pv 0) sa_nil))) (sss_one (ss_set (i := 2) sc__law_pot.nd (sv_d (sd_se (se_cb crAbs vAbs M.z_abs bt_abs (sa_cons (se_ix (opIx rfl) vIx (se_pv 0) (se_pv 1)) sa_nil)))))) sss_nil) (sss_one (ss_ret (sv_l (sl_lst (sa_cons (se_cb (crMax rfl rfl) vMax M.z_max bt_max (sa_cons se_int (sa_cons (se_bin op_sub vSub (se_pv 2) (se_bin op_pow vPow se_int se_int)) sa_nil))) (sa_cons (se_bin (opAdd rfl) vAdd (se_bin op_mod vMod (se_ct crInt vInt M.z_int bt_int (sa_cons (se_bin (opAdd rfl) vAdd (se_bin (opAdd rfl) vAdd (se_bin (opMulX rfl) vMulX (se_bin op_mod vMod (se_ct crInt vInt M.z_int bt_int (sa_cons (se_pv 2) sa_nil)) se_int) se_int) (se_bin (opMulX rfl) vMulX se_int (se_pv 1))) se_int) sa_nil)) se_int) se_int) sa_nil))))))))⟩
theorem g_law {k : Nat} {f : Addr} {fd : FuncData} (F : Fun K "law" "law" s_law f fd) (M : Md K mg) {f__law_right : Addr} {fd__law_right : FuncData} (c__law_right : DL.Cal P w K mg base k "_law_right" ["pot"] m__law_right f__law_right fd__law_right) {f__law_pot : Addr} {fd__law_pot : FuncData} (c__law_pot : DL.Cal P w K mg base k "_law_pot" ["script", "k"] m__law_pot f__law_pot fd__law_pot) : FnG P w K mg base (k + 1) f fd ["script"] m_law :=
  fnG_of F sc_law rfl fun cdv A outer s H hr hgd => ⟨_, (sss_one (ss_ret (sv_d (sd_se (se_cb (crAll rfl rfl) vAll M.z_all bt_all (sa_cons (se_sl (sl_lc [("k", 1)] [1] rfl sc_law.nd (si_rng1 M.z_range (sa_cons (se_cb (crMax rfl rfl) vMax M.z_max bt_max (sa_cons se_int (sa_cons (se_cb (crMin rfl rfl) vMin M.z_min bt_min (sa_cons se_int (sa_cons (se_cb (crLen rfl) vLen M.z_len bt_len (sa_cons (se_pv 0) sa_nil)) sa_nil))) sa_nil))) sa_nil)) (by kernel_rfl) (fun _ _ _ _ _ => (sg_name (i := 1) sc_law.nd)) (fun _ _ _ _ _ => sts_nil) (fun _ _ _ _ _ => (sd_se (se_callF (K := K) (ps := ["pot"]) (m := m__law_right) rfl c__law_right hr hgd (sl_call (K := K) (ps := ["script", "k"]) (m := m__law_pot) rfl c__law_pot hr hgd (sa_cons (se_pv 0) (sa_cons (se_pv 1) sa_nil)))))))) sa_nil))))))⟩
end
/-! ### the end -/
theorem all_mk {l : PySem.W.OpenLaw} {w : World} {K : PySem.W.Frag} {h : Heap} {mg : Str → Option Value} {fa f__law_sides f__law_draw f__law_colours f__law_draft f__law_both f__law_pictures f_is_integer f_is_within f_is_full_value f_want_full f_want_both f_other_of f_both_at f_told_by f_are_both f_is_wrong_at f_first_wrong f_starts_of f_side_bar f_is_list f_is_tuple f_many_warps f_many_wefts f_is_cell_of f_is_count f_is_side_bar f__law_is_full f__law_pick f__law_bent f__law_other f__law_is_wrong f__law_is_cell f__law_is_bar f_is_full f__law_right f__law_pot f_law : Addr} (X : K.In h) (G : h.Ns mainGlobals mg) (hfa : mg "law" = some (.ref fa))
    {od__law_sides an__law_sides od__law_draw an__law_draw od__law_colours an__law_colours od__law_draft an__law_draft od__law_both an__law_both od__law_pictures an__law_pictures od_is_integer an_is_integer od_is_within an_is_within od_is_full_value an_is_full_value od_want_full an_want_full od_want_both an_want_both od_other_of an_other_of od_both_at an_both_at od_told_by an_told_by od_are_both an_are_both od_is_wrong_at an_is_wrong_at od_first_wrong an_first_wrong od_starts_of an_starts_of od_side_bar an_side_bar od_is_list an_is_list od_is_tuple an_is_tuple od_many_warps an_many_warps od_many_wefts an_many_wefts od_is_cell_of an_is_cell_of od_is_count an_is_count od_is_side_bar an_is_side_bar od__law_is_full an__law_is_full od__law_pick an__law_pick od__law_bent an__law_bent od__law_other an__law_other od__law_is_wrong an__law_is_wrong od__law_is_cell an__law_is_cell od__law_is_bar an__law_is_bar od_is_full an_is_full od__law_right an__law_right od__law_pot an__law_pot od_law an_law : Option Addr} {sl__law_sides sl__law_draw sl__law_colours sl__law_draft sl__law_both sl__law_pictures sl_is_integer sl_is_within sl_is_full_value sl_want_full sl_want_both sl_other_of sl_both_at sl_told_by sl_are_both sl_is_wrong_at sl_first_wrong sl_starts_of sl_side_bar sl_is_list sl_is_tuple sl_many_warps sl_many_wefts sl_is_cell_of sl_is_count sl_is_side_bar sl__law_is_full sl__law_pick sl__law_bent sl__law_other sl__law_is_wrong sl__law_is_cell sl__law_is_bar sl_is_full sl__law_right sl__law_pot sl_law : Array (Option Value)} {oc__law_sides kV__law_sides dc__law_sides pm__law_sides cd__law_sides ct__law_sides oc__law_draw kV__law_draw dc__law_draw pm__law_draw cd__law_draw ct__law_draw oc__law_colours kV__law_colours dc__law_colours pm__law_colours cd__law_colours ct__law_colours oc__law_draft kV__law_draft dc__law_draft pm__law_draft cd__law_draft ct__law_draft oc__law_both kV__law_both dc__law_both pm__law_both cd__law_both ct__law_both oc__law_pictures kV__law_pictures dc__law_pictures pm__law_pictures cd__law_pictures ct__law_pictures oc_is_integer kV_is_integer dc_is_integer pm_is_integer cd_is_integer ct_is_integer oc_is_within kV_is_within dc_is_within pm_is_within cd_is_within ct_is_within oc_is_full_value kV_is_full_value dc_is_full_value pm_is_full_value cd_is_full_value ct_is_full_value oc_want_full kV_want_full dc_want_full pm_want_full cd_want_full ct_want_full oc_want_both kV_want_both dc_want_both pm_want_both cd_want_both ct_want_both oc_other_of kV_other_of dc_other_of pm_other_of cd_other_of ct_other_of oc_both_at kV_both_at dc_both_at pm_both_at cd_both_at ct_both_at oc_told_by kV_told_by dc_told_by pm_told_by cd_told_by ct_told_by oc_are_both kV_are_both dc_are_both pm_are_both cd_are_both ct_are_both oc_is_wrong_at kV_is_wrong_at dc_is_wrong_at pm_is_wrong_at cd_is_wrong_at ct_is_wrong_at oc_first_wrong kV_first_wrong dc_first_wrong pm_first_wrong cd_first_wrong ct_first_wrong oc_starts_of kV_starts_of dc_starts_of pm_starts_of cd_starts_of ct_starts_of oc_side_bar kV_side_bar dc_side_bar pm_side_bar cd_side_bar ct_side_bar oc_is_list kV_is_list dc_is_list pm_is_list cd_is_list ct_is_list oc_is_tuple kV_is_tuple dc_is_tuple pm_is_tuple cd_is_tuple ct_is_tuple oc_many_warps kV_many_warps dc_many_warps pm_many_warps cd_many_warps ct_many_warps oc_many_wefts kV_many_wefts dc_many_wefts pm_many_wefts cd_many_wefts ct_many_wefts oc_is_cell_of kV_is_cell_of dc_is_cell_of pm_is_cell_of cd_is_cell_of ct_is_cell_of oc_is_count kV_is_count dc_is_count pm_is_count cd_is_count ct_is_count oc_is_side_bar kV_is_side_bar dc_is_side_bar pm_is_side_bar cd_is_side_bar ct_is_side_bar oc__law_is_full kV__law_is_full dc__law_is_full pm__law_is_full cd__law_is_full ct__law_is_full oc__law_pick kV__law_pick dc__law_pick pm__law_pick cd__law_pick ct__law_pick oc__law_bent kV__law_bent dc__law_bent pm__law_bent cd__law_bent ct__law_bent oc__law_other kV__law_other dc__law_other pm__law_other cd__law_other ct__law_other oc__law_is_wrong kV__law_is_wrong dc__law_is_wrong pm__law_is_wrong cd__law_is_wrong ct__law_is_wrong oc__law_is_cell kV__law_is_cell dc__law_is_cell pm__law_is_cell cd__law_is_cell ct__law_is_cell oc__law_is_bar kV__law_is_bar dc__law_is_bar pm__law_is_bar cd__law_is_bar ct__law_is_bar oc_is_full kV_is_full dc_is_full pm_is_full cd_is_full ct_is_full oc__law_right kV__law_right dc__law_right pm__law_right cd__law_right ct__law_right oc__law_pot kV__law_pot dc__law_pot pm__law_pot cd__law_pot ct__law_pot oc_law kV_law dc_law pm_law cd_law ct_law : Value} {t_MOST t_MOST_COLOUR : Tok}
    (a__law_sides : PySem.W.nsIn K mainGlobals "_law_sides" = some (some (.ref f__law_sides))) (l__law_sides : K.lookup f__law_sides = some ⟨oc__law_sides, od__law_sides, .func (PySem.W.fnOf "_law_sides" "_law_sides" (defArgs s__law_sides) (defBody s__law_sides) (defScope s__law_sides) .none kV__law_sides dc__law_sides pm__law_sides an__law_sides cd__law_sides ct__law_sides), sl__law_sides⟩) (d__law_sides : PySem.W.codeIn K cd__law_sides "_law_sides" = true) (k__law_sides : PySem.W.keepIn K (.ref f__law_sides) = true)
    (a__law_draw : PySem.W.nsIn K mainGlobals "_law_draw" = some (some (.ref f__law_draw))) (l__law_draw : K.lookup f__law_draw = some ⟨oc__law_draw, od__law_draw, .func (PySem.W.fnOf "_law_draw" "_law_draw" (defArgs s__law_draw) (defBody s__law_draw) (defScope s__law_draw) .none kV__law_draw dc__law_draw pm__law_draw an__law_draw cd__law_draw ct__law_draw), sl__law_draw⟩) (d__law_draw : PySem.W.codeIn K cd__law_draw "_law_draw" = true) (k__law_draw : PySem.W.keepIn K (.ref f__law_draw) = true)
    (a__law_colours : PySem.W.nsIn K mainGlobals "_law_colours" = some (some (.ref f__law_colours))) (l__law_colours : K.lookup f__law_colours = some ⟨oc__law_colours, od__law_colours, .func (PySem.W.fnOf "_law_colours" "_law_colours" (defArgs s__law_colours) (defBody s__law_colours) (defScope s__law_colours) .none kV__law_colours dc__law_colours pm__law_colours an__law_colours cd__law_colours ct__law_colours), sl__law_colours⟩) (d__law_colours : PySem.W.codeIn K cd__law_colours "_law_colours" = true) (k__law_colours : PySem.W.keepIn K (.ref f__law_colours) = true)
    (a__law_draft : PySem.W.nsIn K mainGlobals "_law_draft" = some (some (.ref f__law_draft))) (l__law_draft : K.lookup f__law_draft = some ⟨oc__law_draft, od__law_draft, .func (PySem.W.fnOf "_law_draft" "_law_draft" (defArgs s__law_draft) (defBody s__law_draft) (defScope s__law_draft) .none kV__law_draft dc__law_draft pm__law_draft an__law_draft cd__law_draft ct__law_draft), sl__law_draft⟩) (d__law_draft : PySem.W.codeIn K cd__law_draft "_law_draft" = true) (k__law_draft : PySem.W.keepIn K (.ref f__law_draft) = true)
    (a__law_both : PySem.W.nsIn K mainGlobals "_law_both" = some (some (.ref f__law_both))) (l__law_both : K.lookup f__law_both = some ⟨oc__law_both, od__law_both, .func (PySem.W.fnOf "_law_both" "_law_both" (defArgs s__law_both) (defBody s__law_both) (defScope s__law_both) .none kV__law_both dc__law_both pm__law_both an__law_both cd__law_both ct__law_both), sl__law_both⟩) (d__law_both : PySem.W.codeIn K cd__law_both "_law_both" = true) (k__law_both : PySem.W.keepIn K (.ref f__law_both) = true)
    (a__law_pictures : PySem.W.nsIn K mainGlobals "_law_pictures" = some (some (.ref f__law_pictures))) (l__law_pictures : K.lookup f__law_pictures = some ⟨oc__law_pictures, od__law_pictures, .func (PySem.W.fnOf "_law_pictures" "_law_pictures" (defArgs s__law_pictures) (defBody s__law_pictures) (defScope s__law_pictures) .none kV__law_pictures dc__law_pictures pm__law_pictures an__law_pictures cd__law_pictures ct__law_pictures), sl__law_pictures⟩) (d__law_pictures : PySem.W.codeIn K cd__law_pictures "_law_pictures" = true) (k__law_pictures : PySem.W.keepIn K (.ref f__law_pictures) = true)
    (a_is_integer : PySem.W.nsIn K mainGlobals "is_integer" = some (some (.ref f_is_integer))) (l_is_integer : K.lookup f_is_integer = some ⟨oc_is_integer, od_is_integer, .func (PySem.W.fnOf "is_integer" "is_integer" (defArgs s_is_integer) (defBody s_is_integer) (defScope s_is_integer) .none kV_is_integer dc_is_integer pm_is_integer an_is_integer cd_is_integer ct_is_integer), sl_is_integer⟩) (d_is_integer : PySem.W.codeIn K cd_is_integer "is_integer" = true) (k_is_integer : PySem.W.keepIn K (.ref f_is_integer) = true)
    (a_is_within : PySem.W.nsIn K mainGlobals "is_within" = some (some (.ref f_is_within))) (l_is_within : K.lookup f_is_within = some ⟨oc_is_within, od_is_within, .func (PySem.W.fnOf "is_within" "is_within" (defArgs s_is_within) (defBody s_is_within) (defScope s_is_within) .none kV_is_within dc_is_within pm_is_within an_is_within cd_is_within ct_is_within), sl_is_within⟩) (d_is_within : PySem.W.codeIn K cd_is_within "is_within" = true) (k_is_within : PySem.W.keepIn K (.ref f_is_within) = true)
    (a_is_full_value : PySem.W.nsIn K mainGlobals "is_full_value" = some (some (.ref f_is_full_value))) (l_is_full_value : K.lookup f_is_full_value = some ⟨oc_is_full_value, od_is_full_value, .func (PySem.W.fnOf "is_full_value" "is_full_value" (defArgs s_is_full_value) (defBody s_is_full_value) (defScope s_is_full_value) .none kV_is_full_value dc_is_full_value pm_is_full_value an_is_full_value cd_is_full_value ct_is_full_value), sl_is_full_value⟩) (d_is_full_value : PySem.W.codeIn K cd_is_full_value "is_full_value" = true) (k_is_full_value : PySem.W.keepIn K (.ref f_is_full_value) = true)
    (a_want_full : PySem.W.nsIn K mainGlobals "want_full" = some (some (.ref f_want_full))) (l_want_full : K.lookup f_want_full = some ⟨oc_want_full, od_want_full, .func (PySem.W.fnOf "want_full" "want_full" (defArgs s_want_full) (defBody s_want_full) (defScope s_want_full) .none kV_want_full dc_want_full pm_want_full an_want_full cd_want_full ct_want_full), sl_want_full⟩) (d_want_full : PySem.W.codeIn K cd_want_full "want_full" = true) (k_want_full : PySem.W.keepIn K (.ref f_want_full) = true)
    (a_want_both : PySem.W.nsIn K mainGlobals "want_both" = some (some (.ref f_want_both))) (l_want_both : K.lookup f_want_both = some ⟨oc_want_both, od_want_both, .func (PySem.W.fnOf "want_both" "want_both" (defArgs s_want_both) (defBody s_want_both) (defScope s_want_both) .none kV_want_both dc_want_both pm_want_both an_want_both cd_want_both ct_want_both), sl_want_both⟩) (d_want_both : PySem.W.codeIn K cd_want_both "want_both" = true) (k_want_both : PySem.W.keepIn K (.ref f_want_both) = true)
    (a_other_of : PySem.W.nsIn K mainGlobals "other_of" = some (some (.ref f_other_of))) (l_other_of : K.lookup f_other_of = some ⟨oc_other_of, od_other_of, .func (PySem.W.fnOf "other_of" "other_of" (defArgs s_other_of) (defBody s_other_of) (defScope s_other_of) .none kV_other_of dc_other_of pm_other_of an_other_of cd_other_of ct_other_of), sl_other_of⟩) (d_other_of : PySem.W.codeIn K cd_other_of "other_of" = true) (k_other_of : PySem.W.keepIn K (.ref f_other_of) = true)
    (a_both_at : PySem.W.nsIn K mainGlobals "both_at" = some (some (.ref f_both_at))) (l_both_at : K.lookup f_both_at = some ⟨oc_both_at, od_both_at, .func (PySem.W.fnOf "both_at" "both_at" (defArgs s_both_at) (defBody s_both_at) (defScope s_both_at) .none kV_both_at dc_both_at pm_both_at an_both_at cd_both_at ct_both_at), sl_both_at⟩) (d_both_at : PySem.W.codeIn K cd_both_at "both_at" = true) (k_both_at : PySem.W.keepIn K (.ref f_both_at) = true)
    (a_told_by : PySem.W.nsIn K mainGlobals "told_by" = some (some (.ref f_told_by))) (l_told_by : K.lookup f_told_by = some ⟨oc_told_by, od_told_by, .func (PySem.W.fnOf "told_by" "told_by" (defArgs s_told_by) (defBody s_told_by) (defScope s_told_by) .none kV_told_by dc_told_by pm_told_by an_told_by cd_told_by ct_told_by), sl_told_by⟩) (d_told_by : PySem.W.codeIn K cd_told_by "told_by" = true) (k_told_by : PySem.W.keepIn K (.ref f_told_by) = true)
    (a_are_both : PySem.W.nsIn K mainGlobals "are_both" = some (some (.ref f_are_both))) (l_are_both : K.lookup f_are_both = some ⟨oc_are_both, od_are_both, .func (PySem.W.fnOf "are_both" "are_both" (defArgs s_are_both) (defBody s_are_both) (defScope s_are_both) .none kV_are_both dc_are_both pm_are_both an_are_both cd_are_both ct_are_both), sl_are_both⟩) (d_are_both : PySem.W.codeIn K cd_are_both "are_both" = true) (k_are_both : PySem.W.keepIn K (.ref f_are_both) = true)
    (a_is_wrong_at : PySem.W.nsIn K mainGlobals "is_wrong_at" = some (some (.ref f_is_wrong_at))) (l_is_wrong_at : K.lookup f_is_wrong_at = some ⟨oc_is_wrong_at, od_is_wrong_at, .func (PySem.W.fnOf "is_wrong_at" "is_wrong_at" (defArgs s_is_wrong_at) (defBody s_is_wrong_at) (defScope s_is_wrong_at) .none kV_is_wrong_at dc_is_wrong_at pm_is_wrong_at an_is_wrong_at cd_is_wrong_at ct_is_wrong_at), sl_is_wrong_at⟩) (d_is_wrong_at : PySem.W.codeIn K cd_is_wrong_at "is_wrong_at" = true) (k_is_wrong_at : PySem.W.keepIn K (.ref f_is_wrong_at) = true)
    (a_first_wrong : PySem.W.nsIn K mainGlobals "first_wrong" = some (some (.ref f_first_wrong))) (l_first_wrong : K.lookup f_first_wrong = some ⟨oc_first_wrong, od_first_wrong, .func (PySem.W.fnOf "first_wrong" "first_wrong" (defArgs s_first_wrong) (defBody s_first_wrong) (defScope s_first_wrong) .none kV_first_wrong dc_first_wrong pm_first_wrong an_first_wrong cd_first_wrong ct_first_wrong), sl_first_wrong⟩) (d_first_wrong : PySem.W.codeIn K cd_first_wrong "first_wrong" = true) (k_first_wrong : PySem.W.keepIn K (.ref f_first_wrong) = true)
    (a_starts_of : PySem.W.nsIn K mainGlobals "starts_of" = some (some (.ref f_starts_of))) (l_starts_of : K.lookup f_starts_of = some ⟨oc_starts_of, od_starts_of, .func (PySem.W.fnOf "starts_of" "starts_of" (defArgs s_starts_of) (defBody s_starts_of) (defScope s_starts_of) .none kV_starts_of dc_starts_of pm_starts_of an_starts_of cd_starts_of ct_starts_of), sl_starts_of⟩) (d_starts_of : PySem.W.codeIn K cd_starts_of "starts_of" = true) (k_starts_of : PySem.W.keepIn K (.ref f_starts_of) = true)
    (a_side_bar : PySem.W.nsIn K mainGlobals "side_bar" = some (some (.ref f_side_bar))) (l_side_bar : K.lookup f_side_bar = some ⟨oc_side_bar, od_side_bar, .func (PySem.W.fnOf "side_bar" "side_bar" (defArgs s_side_bar) (defBody s_side_bar) (defScope s_side_bar) .none kV_side_bar dc_side_bar pm_side_bar an_side_bar cd_side_bar ct_side_bar), sl_side_bar⟩) (d_side_bar : PySem.W.codeIn K cd_side_bar "side_bar" = true) (k_side_bar : PySem.W.keepIn K (.ref f_side_bar) = true)
    (a_is_list : PySem.W.nsIn K mainGlobals "is_list" = some (some (.ref f_is_list))) (l_is_list : K.lookup f_is_list = some ⟨oc_is_list, od_is_list, .func (PySem.W.fnOf "is_list" "is_list" (defArgs s_is_list) (defBody s_is_list) (defScope s_is_list) .none kV_is_list dc_is_list pm_is_list an_is_list cd_is_list ct_is_list), sl_is_list⟩) (d_is_list : PySem.W.codeIn K cd_is_list "is_list" = true) (k_is_list : PySem.W.keepIn K (.ref f_is_list) = true)
    (a_is_tuple : PySem.W.nsIn K mainGlobals "is_tuple" = some (some (.ref f_is_tuple))) (l_is_tuple : K.lookup f_is_tuple = some ⟨oc_is_tuple, od_is_tuple, .func (PySem.W.fnOf "is_tuple" "is_tuple" (defArgs s_is_tuple) (defBody s_is_tuple) (defScope s_is_tuple) .none kV_is_tuple dc_is_tuple pm_is_tuple an_is_tuple cd_is_tuple ct_is_tuple), sl_is_tuple⟩) (d_is_tuple : PySem.W.codeIn K cd_is_tuple "is_tuple" = true) (k_is_tuple : PySem.W.keepIn K (.ref f_is_tuple) = true)
    (a_many_warps : PySem.W.nsIn K mainGlobals "many_warps" = some (some (.ref f_many_warps))) (l_many_warps : K.lookup f_many_warps = some ⟨oc_many_warps, od_many_warps, .func (PySem.W.fnOf "many_warps" "many_warps" (defArgs s_many_warps) (defBody s_many_warps) (defScope s_many_warps) .none kV_many_warps dc_many_warps pm_many_warps an_many_warps cd_many_warps ct_many_warps), sl_many_warps⟩) (d_many_warps : PySem.W.codeIn K cd_many_warps "many_warps" = true) (k_many_warps : PySem.W.keepIn K (.ref f_many_warps) = true)
    (a_many_wefts : PySem.W.nsIn K mainGlobals "many_wefts" = some (some (.ref f_many_wefts))) (l_many_wefts : K.lookup f_many_wefts = some ⟨oc_many_wefts, od_many_wefts, .func (PySem.W.fnOf "many_wefts" "many_wefts" (defArgs s_many_wefts) (defBody s_many_wefts) (defScope s_many_wefts) .none kV_many_wefts dc_many_wefts pm_many_wefts an_many_wefts cd_many_wefts ct_many_wefts), sl_many_wefts⟩) (d_many_wefts : PySem.W.codeIn K cd_many_wefts "many_wefts" = true) (k_many_wefts : PySem.W.keepIn K (.ref f_many_wefts) = true)
    (a_is_cell_of : PySem.W.nsIn K mainGlobals "is_cell_of" = some (some (.ref f_is_cell_of))) (l_is_cell_of : K.lookup f_is_cell_of = some ⟨oc_is_cell_of, od_is_cell_of, .func (PySem.W.fnOf "is_cell_of" "is_cell_of" (defArgs s_is_cell_of) (defBody s_is_cell_of) (defScope s_is_cell_of) .none kV_is_cell_of dc_is_cell_of pm_is_cell_of an_is_cell_of cd_is_cell_of ct_is_cell_of), sl_is_cell_of⟩) (d_is_cell_of : PySem.W.codeIn K cd_is_cell_of "is_cell_of" = true) (k_is_cell_of : PySem.W.keepIn K (.ref f_is_cell_of) = true)
    (a_is_count : PySem.W.nsIn K mainGlobals "is_count" = some (some (.ref f_is_count))) (l_is_count : K.lookup f_is_count = some ⟨oc_is_count, od_is_count, .func (PySem.W.fnOf "is_count" "is_count" (defArgs s_is_count) (defBody s_is_count) (defScope s_is_count) .none kV_is_count dc_is_count pm_is_count an_is_count cd_is_count ct_is_count), sl_is_count⟩) (d_is_count : PySem.W.codeIn K cd_is_count "is_count" = true) (k_is_count : PySem.W.keepIn K (.ref f_is_count) = true)
    (a_is_side_bar : PySem.W.nsIn K mainGlobals "is_side_bar" = some (some (.ref f_is_side_bar))) (l_is_side_bar : K.lookup f_is_side_bar = some ⟨oc_is_side_bar, od_is_side_bar, .func (PySem.W.fnOf "is_side_bar" "is_side_bar" (defArgs s_is_side_bar) (defBody s_is_side_bar) (defScope s_is_side_bar) .none kV_is_side_bar dc_is_side_bar pm_is_side_bar an_is_side_bar cd_is_side_bar ct_is_side_bar), sl_is_side_bar⟩) (d_is_side_bar : PySem.W.codeIn K cd_is_side_bar "is_side_bar" = true) (k_is_side_bar : PySem.W.keepIn K (.ref f_is_side_bar) = true)
    (a__law_is_full : PySem.W.nsIn K mainGlobals "_law_is_full" = some (some (.ref f__law_is_full))) (l__law_is_full : K.lookup f__law_is_full = some ⟨oc__law_is_full, od__law_is_full, .func (PySem.W.fnOf "_law_is_full" "_law_is_full" (defArgs s__law_is_full) (defBody s__law_is_full) (defScope s__law_is_full) .none kV__law_is_full dc__law_is_full pm__law_is_full an__law_is_full cd__law_is_full ct__law_is_full), sl__law_is_full⟩) (d__law_is_full : PySem.W.codeIn K cd__law_is_full "_law_is_full" = true) (k__law_is_full : PySem.W.keepIn K (.ref f__law_is_full) = true)
    (a__law_pick : PySem.W.nsIn K mainGlobals "_law_pick" = some (some (.ref f__law_pick))) (l__law_pick : K.lookup f__law_pick = some ⟨oc__law_pick, od__law_pick, .func (PySem.W.fnOf "_law_pick" "_law_pick" (defArgs s__law_pick) (defBody s__law_pick) (defScope s__law_pick) .none kV__law_pick dc__law_pick pm__law_pick an__law_pick cd__law_pick ct__law_pick), sl__law_pick⟩) (d__law_pick : PySem.W.codeIn K cd__law_pick "_law_pick" = true) (k__law_pick : PySem.W.keepIn K (.ref f__law_pick) = true)
    (a__law_bent : PySem.W.nsIn K mainGlobals "_law_bent" = some (some (.ref f__law_bent))) (l__law_bent : K.lookup f__law_bent = some ⟨oc__law_bent, od__law_bent, .func (PySem.W.fnOf "_law_bent" "_law_bent" (defArgs s__law_bent) (defBody s__law_bent) (defScope s__law_bent) .none kV__law_bent dc__law_bent pm__law_bent an__law_bent cd__law_bent ct__law_bent), sl__law_bent⟩) (d__law_bent : PySem.W.codeIn K cd__law_bent "_law_bent" = true) (k__law_bent : PySem.W.keepIn K (.ref f__law_bent) = true)
    (a__law_other : PySem.W.nsIn K mainGlobals "_law_other" = some (some (.ref f__law_other))) (l__law_other : K.lookup f__law_other = some ⟨oc__law_other, od__law_other, .func (PySem.W.fnOf "_law_other" "_law_other" (defArgs s__law_other) (defBody s__law_other) (defScope s__law_other) .none kV__law_other dc__law_other pm__law_other an__law_other cd__law_other ct__law_other), sl__law_other⟩) (d__law_other : PySem.W.codeIn K cd__law_other "_law_other" = true) (k__law_other : PySem.W.keepIn K (.ref f__law_other) = true)
    (a__law_is_wrong : PySem.W.nsIn K mainGlobals "_law_is_wrong" = some (some (.ref f__law_is_wrong))) (l__law_is_wrong : K.lookup f__law_is_wrong = some ⟨oc__law_is_wrong, od__law_is_wrong, .func (PySem.W.fnOf "_law_is_wrong" "_law_is_wrong" (defArgs s__law_is_wrong) (defBody s__law_is_wrong) (defScope s__law_is_wrong) .none kV__law_is_wrong dc__law_is_wrong pm__law_is_wrong an__law_is_wrong cd__law_is_wrong ct__law_is_wrong), sl__law_is_wrong⟩) (d__law_is_wrong : PySem.W.codeIn K cd__law_is_wrong "_law_is_wrong" = true) (k__law_is_wrong : PySem.W.keepIn K (.ref f__law_is_wrong) = true)
    (a__law_is_cell : PySem.W.nsIn K mainGlobals "_law_is_cell" = some (some (.ref f__law_is_cell))) (l__law_is_cell : K.lookup f__law_is_cell = some ⟨oc__law_is_cell, od__law_is_cell, .func (PySem.W.fnOf "_law_is_cell" "_law_is_cell" (defArgs s__law_is_cell) (defBody s__law_is_cell) (defScope s__law_is_cell) .none kV__law_is_cell dc__law_is_cell pm__law_is_cell an__law_is_cell cd__law_is_cell ct__law_is_cell), sl__law_is_cell⟩) (d__law_is_cell : PySem.W.codeIn K cd__law_is_cell "_law_is_cell" = true) (k__law_is_cell : PySem.W.keepIn K (.ref f__law_is_cell) = true)
    (a__law_is_bar : PySem.W.nsIn K mainGlobals "_law_is_bar" = some (some (.ref f__law_is_bar))) (l__law_is_bar : K.lookup f__law_is_bar = some ⟨oc__law_is_bar, od__law_is_bar, .func (PySem.W.fnOf "_law_is_bar" "_law_is_bar" (defArgs s__law_is_bar) (defBody s__law_is_bar) (defScope s__law_is_bar) .none kV__law_is_bar dc__law_is_bar pm__law_is_bar an__law_is_bar cd__law_is_bar ct__law_is_bar), sl__law_is_bar⟩) (d__law_is_bar : PySem.W.codeIn K cd__law_is_bar "_law_is_bar" = true) (k__law_is_bar : PySem.W.keepIn K (.ref f__law_is_bar) = true)
    (a_is_full : PySem.W.nsIn K mainGlobals "is_full" = some (some (.ref f_is_full))) (l_is_full : K.lookup f_is_full = some ⟨oc_is_full, od_is_full, .func (PySem.W.fnOf "is_full" "is_full" (defArgs s_is_full) (defBody s_is_full) (defScope s_is_full) .none kV_is_full dc_is_full pm_is_full an_is_full cd_is_full ct_is_full), sl_is_full⟩) (d_is_full : PySem.W.codeIn K cd_is_full "is_full" = true) (k_is_full : PySem.W.keepIn K (.ref f_is_full) = true)
    (a__law_right : PySem.W.nsIn K mainGlobals "_law_right" = some (some (.ref f__law_right))) (l__law_right : K.lookup f__law_right = some ⟨oc__law_right, od__law_right, .func (PySem.W.fnOf "_law_right" "_law_right" (defArgs s__law_right) (defBody s__law_right) (defScope s__law_right) .none kV__law_right dc__law_right pm__law_right an__law_right cd__law_right ct__law_right), sl__law_right⟩) (d__law_right : PySem.W.codeIn K cd__law_right "_law_right" = true) (k__law_right : PySem.W.keepIn K (.ref f__law_right) = true)
    (a__law_pot : PySem.W.nsIn K mainGlobals "_law_pot" = some (some (.ref f__law_pot))) (l__law_pot : K.lookup f__law_pot = some ⟨oc__law_pot, od__law_pot, .func (PySem.W.fnOf "_law_pot" "_law_pot" (defArgs s__law_pot) (defBody s__law_pot) (defScope s__law_pot) .none kV__law_pot dc__law_pot pm__law_pot an__law_pot cd__law_pot ct__law_pot), sl__law_pot⟩) (d__law_pot : PySem.W.codeIn K cd__law_pot "_law_pot" = true) (k__law_pot : PySem.W.keepIn K (.ref f__law_pot) = true)
    (a_law : PySem.W.nsIn K mainGlobals "law" = some (some (.ref f_law))) (l_law : K.lookup f_law = some ⟨oc_law, od_law, .func (PySem.W.fnOf "law" "law" (defArgs s_law) (defBody s_law) (defScope s_law) .none kV_law dc_law pm_law an_law cd_law ct_law), sl_law⟩) (d_law : PySem.W.codeIn K cd_law "law" = true) (k_law : PySem.W.keepIn K (.ref f_law) = true)
    (z_abs : PySem.W.nsIn K mainGlobals "abs" = some none)
    (z_all : PySem.W.nsIn K mainGlobals "all" = some none)
    (z_any : PySem.W.nsIn K mainGlobals "any" = some none)
    (z_bool : PySem.W.nsIn K mainGlobals "bool" = some none)
    (z_divmod : PySem.W.nsIn K mainGlobals "divmod" = some none)
    (z_enumerate : PySem.W.nsIn K mainGlobals "enumerate" = some none)
    (z_int : PySem.W.nsIn K mainGlobals "int" = some none)
    (z_isinstance : PySem.W.nsIn K mainGlobals "isinstance" = some none)
    (z_len : PySem.W.nsIn K mainGlobals "len" = some none)
    (z_list : PySem.W.nsIn K mainGlobals "list" = some none)
    (z_max : PySem.W.nsIn K mainGlobals "max" = some none)
    (z_min : PySem.W.nsIn K mainGlobals "min" = some none)
    (z_range : PySem.W.nsIn K mainGlobals "range" = some none)
    (z_repr : PySem.W.nsIn K mainGlobals "repr" = some none)
    (z_sorted : PySem.W.nsIn K mainGlobals "sorted" = some none)
    (z_tuple : PySem.W.nsIn K mainGlobals "tuple" = some none)
    (q_MOST : PySem.W.nsIn K mainGlobals "MOST" = some (some (.int 12 t_MOST)))
    (q_MOST_COLOUR : PySem.W.nsIn K mainGlobals "MOST_COLOUR" = some (some (.int 7 t_MOST_COLOUR)))
    : ∃ fd : FuncData, (∀ (s : Shared) (v : Value), BindsTo s fd ⟨[v], []⟩ [("script", v)]) ∧ ∀ base : Heap, K.In base → base.Ns mainGlobals mg → FnG l.prog w K mg base 8 fa fd ["script"] m_law := by
  have e := hfa.symm.trans (PySem.W.mg_of X G a_law)
  cases e
  have M : Md K mg := ⟨PySem.W.mg_none_of X G z_abs, PySem.W.mg_none_of X G z_all, PySem.W.mg_none_of X G z_any, PySem.W.mg_none_of X G z_bool, PySem.W.mg_none_of X G z_divmod, PySem.W.mg_none_of X G z_enumerate, PySem.W.mg_none_of X G z_int, PySem.W.mg_none_of X G z_isinstance, PySem.W.mg_none_of X G z_len, PySem.W.mg_none_of X G z_list, PySem.W.mg_none_of X G z_max, PySem.W.mg_none_of X G z_min, PySem.W.mg_none_of X G z_range, PySem.W.mg_none_of X G z_repr, PySem.W.mg_none_of X G z_sorted, PySem.W.mg_none_of X G z_tuple, ⟨⟨_, PySem.W.mg_of X G q_MOST, ⟨_, rfl⟩⟩, fun _ => .int _⟩, ⟨⟨_, PySem.W.mg_of X G q_MOST_COLOUR, ⟨_, rfl⟩⟩, fun _ => .int _⟩⟩
  have F__law_sides := fun_mk (st := s__law_sides) l__law_sides d__law_sides k__law_sides
  have b__law_sides := F__law_sides.binds (ps := ["draft", "dyeing"]) fun _ _ _ _ _ _ us hl => match us, hl with | [_, _], _ => rfl
  have F__law_draw := fun_mk (st := s__law_draw) l__law_draw d__law_draw k__law_draw
  have b__law_draw := F__law_draw.binds (ps := ["pot", "many"]) fun _ _ _ _ _ _ us hl => match us, hl with | [_, _], _ => rfl
  have F__law_colours := fun_mk (st := s__law_colours) l__law_colours d__law_colours k__law_colours
  have b__law_colours := F__law_colours.binds (ps := ["pot", "many", "most"]) fun _ _ _ _ _ _ us hl => match us, hl with | [_, _, _], _ => rfl
  have F__law_draft := fun_mk (st := s__law_draft) l__law_draft d__law_draft k__law_draft
  have b__law_draft := F__law_draft.binds (ps := ["pot", "wefts", "warps"]) fun _ _ _ _ _ _ us hl => match us, hl with | [_, _, _], _ => rfl
  have F__law_both := fun_mk (st := s__law_both) l__law_both d__law_both k__law_both
  have b__law_both := F__law_both.binds (ps := ["pot", "most", "wrong"]) fun _ _ _ _ _ _ us hl => match us, hl with | [_, _, _], _ => rfl
  have F__law_pictures := fun_mk (st := s__law_pictures) l__law_pictures d__law_pictures k__law_pictures
  have b__law_pictures := F__law_pictures.binds (ps := ["pot"]) fun _ _ _ _ _ _ us hl => match us, hl with | [_], _ => rfl
  have F_is_integer := fun_mk (st := s_is_integer) l_is_integer d_is_integer k_is_integer
  have b_is_integer := F_is_integer.binds (ps := ["value"]) fun _ _ _ _ _ _ us hl => match us, hl with | [_], _ => rfl
  have F_is_within := fun_mk (st := s_is_within) l_is_within d_is_within k_is_within
  have b_is_within := F_is_within.binds (ps := ["value", "least", "most"]) fun _ _ _ _ _ _ us hl => match us, hl with | [_, _, _], _ => rfl
  have F_is_full_value := fun_mk (st := s_is_full_value) l_is_full_value d_is_full_value k_is_full_value
  have b_is_full_value := F_is_full_value.binds (ps := ["value"]) fun _ _ _ _ _ _ us hl => match us, hl with | [_], _ => rfl
  have F_want_full := fun_mk (st := s_want_full) l_want_full d_want_full k_want_full
  have b_want_full := F_want_full.binds (ps := ["picture"]) fun _ _ _ _ _ _ us hl => match us, hl with | [_], _ => rfl
  have F_want_both := fun_mk (st := s_want_both) l_want_both d_want_both k_want_both
  have b_want_both := F_want_both.binds (ps := ["front", "back"]) fun _ _ _ _ _ _ us hl => match us, hl with | [_, _], _ => rfl
  have F_other_of := fun_mk (st := s_other_of) l_other_of d_other_of k_other_of
  have b_other_of := F_other_of.binds (ps := ["both", "colour"]) fun _ _ _ _ _ _ us hl => match us, hl with | [_, _], _ => rfl
  have F_both_at := fun_mk (st := s_both_at) l_both_at d_both_at k_both_at
  have b_both_at := F_both_at.binds (ps := ["front", "back", "weft", "warp"]) fun _ _ _ _ _ _ us hl => match us, hl with | [_, _, _, _], _ => rfl
  have F_told_by := fun_mk (st := s_told_by) l_told_by d_told_by k_told_by
  have b_told_by := F_told_by.binds (ps := ["front", "back", "colour"]) fun _ _ _ _ _ _ us hl => match us, hl with | [_, _, _], _ => rfl
  have F_are_both := fun_mk (st := s_are_both) l_are_both d_are_both k_are_both
  have b_are_both := F_are_both.binds (ps := ["both", "one", "other"]) fun _ _ _ _ _ _ us hl => match us, hl with | [_, _, _], _ => rfl
  have F_is_wrong_at := fun_mk (st := s_is_wrong_at) l_is_wrong_at d_is_wrong_at k_is_wrong_at
  have b_is_wrong_at := F_is_wrong_at.binds (ps := ["front", "back", "told", "weft", "warp"]) fun _ _ _ _ _ _ us hl => match us, hl with | [_, _, _, _, _], _ => rfl
  have F_first_wrong := fun_mk (st := s_first_wrong) l_first_wrong d_first_wrong k_first_wrong
  have b_first_wrong := F_first_wrong.binds (ps := ["front", "back", "colour"]) fun _ _ _ _ _ _ us hl => match us, hl with | [_, _, _], _ => rfl
  have F_starts_of := fun_mk (st := s_starts_of) l_starts_of d_starts_of k_starts_of
  have b_starts_of := F_starts_of.binds (ps := ["front", "back"]) fun _ _ _ _ _ _ us hl => match us, hl with | [_, _], _ => rfl
  have F_side_bar := fun_mk (st := s_side_bar) l_side_bar d_side_bar k_side_bar
  have b_side_bar := F_side_bar.binds (ps := ["front", "back"]) fun _ _ _ _ _ _ us hl => match us, hl with | [_, _], _ => rfl
  have F_is_list := fun_mk (st := s_is_list) l_is_list d_is_list k_is_list
  have b_is_list := F_is_list.binds (ps := ["value"]) fun _ _ _ _ _ _ us hl => match us, hl with | [_], _ => rfl
  have F_is_tuple := fun_mk (st := s_is_tuple) l_is_tuple d_is_tuple k_is_tuple
  have b_is_tuple := F_is_tuple.binds (ps := ["value", "many"]) fun _ _ _ _ _ _ us hl => match us, hl with | [_, _], _ => rfl
  have F_many_warps := fun_mk (st := s_many_warps) l_many_warps d_many_warps k_many_warps
  have b_many_warps := F_many_warps.binds (ps := ["draft"]) fun _ _ _ _ _ _ us hl => match us, hl with | [_], _ => rfl
  have F_many_wefts := fun_mk (st := s_many_wefts) l_many_wefts d_many_wefts k_many_wefts
  have b_many_wefts := F_many_wefts.binds (ps := ["draft"]) fun _ _ _ _ _ _ us hl => match us, hl with | [_], _ => rfl
  have F_is_cell_of := fun_mk (st := s_is_cell_of) l_is_cell_of d_is_cell_of k_is_cell_of
  have b_is_cell_of := F_is_cell_of.binds (ps := ["draft", "value"]) fun _ _ _ _ _ _ us hl => match us, hl with | [_, _], _ => rfl
  have F_is_count := fun_mk (st := s_is_count) l_is_count d_is_count k_is_count
  have b_is_count := F_is_count.binds (ps := ["value"]) fun _ _ _ _ _ _ us hl => match us, hl with | [_], _ => rfl
  have F_is_side_bar := fun_mk (st := s_is_side_bar) l_is_side_bar d_is_side_bar k_is_side_bar
  have b_is_side_bar := F_is_side_bar.binds (ps := ["front", "back", "value"]) fun _ _ _ _ _ _ us hl => match us, hl with | [_, _, _], _ => rfl
  have F__law_is_full := fun_mk (st := s__law_is_full) l__law_is_full d__law_is_full k__law_is_full
  have b__law_is_full := F__law_is_full.binds (ps := ["value"]) fun _ _ _ _ _ _ us hl => match us, hl with | [_], _ => rfl
  have F__law_pick := fun_mk (st := s__law_pick) l__law_pick d__law_pick k__law_pick
  have b__law_pick := F__law_pick.binds (ps := ["pot", "some"]) fun _ _ _ _ _ _ us hl => match us, hl with | [_, _], _ => rfl
  have F__law_bent := fun_mk (st := s__law_bent) l__law_bent d__law_bent k__law_bent
  have b__law_bent := F__law_bent.binds (ps := ["pot", "front", "told"]) fun _ _ _ _ _ _ us hl => match us, hl with | [_, _, _], _ => rfl
  have F__law_other := fun_mk (st := s__law_other) l__law_other d__law_other k__law_other
  have b__law_other := F__law_other.binds (ps := ["near", "far", "colour"]) fun _ _ _ _ _ _ us hl => match us, hl with | [_, _, _], _ => rfl
  have F__law_is_wrong := fun_mk (st := s__law_is_wrong) l__law_is_wrong d__law_is_wrong k__law_is_wrong
  have b__law_is_wrong := F__law_is_wrong.binds (ps := ["front", "back", "colour", "cell"]) fun _ _ _ _ _ _ us hl => match us, hl with | [_, _, _, _], _ => rfl
  have F__law_is_cell := fun_mk (st := s__law_is_cell) l__law_is_cell d__law_is_cell k__law_is_cell
  have b__law_is_cell := F__law_is_cell.binds (ps := ["front", "value"]) fun _ _ _ _ _ _ us hl => match us, hl with | [_, _], _ => rfl
  have F__law_is_bar := fun_mk (st := s__law_is_bar) l__law_is_bar d__law_is_bar k__law_is_bar
  have b__law_is_bar := F__law_is_bar.binds (ps := ["front", "back", "value"]) fun _ _ _ _ _ _ us hl => match us, hl with | [_, _, _], _ => rfl
  have F_is_full := fun_mk (st := s_is_full) l_is_full d_is_full k_is_full
  have b_is_full := F_is_full.binds (ps := ["value"]) fun _ _ _ _ _ _ us hl => match us, hl with | [_], _ => rfl
  have F__law_right := fun_mk (st := s__law_right) l__law_right d__law_right k__law_right
  have b__law_right := F__law_right.binds (ps := ["pot"]) fun _ _ _ _ _ _ us hl => match us, hl with | [_], _ => rfl
  have F__law_pot := fun_mk (st := s__law_pot) l__law_pot d__law_pot k__law_pot
  have b__law_pot := F__law_pot.binds (ps := ["script", "k"]) fun _ _ _ _ _ _ us hl => match us, hl with | [_, _], _ => rfl
  have F_law := fun_mk (st := s_law) l_law d_law k_law
  have kb_is_full_0_value : KwB K _ ["value"] ["value"] [0] := kwb F_is_full fun _ _ _ _ _ _ us ws h1 h2 => match us, ws, h1, h2 with | [], [_], _, _ => rfl
  have kb_is_side_bar_0_value_back_front : KwB K _ ["front", "back", "value"] ["value", "back", "front"] [2, 1, 0] := kwb F_is_side_bar fun _ _ _ _ _ _ us ws h1 h2 => match us, ws, h1, h2 with | [], [_, _, _], _, _ => rfl
  refine ⟨PySem.W.fnOf "law" "law" (defArgs s_law) (defBody s_law) (defScope s_law) .none kV_law dc_law pm_law an_law cd_law ct_law, fun s v => .of_eq rfl, fun base _ _ => ?_⟩
  have G__law_sides : FnG l.prog w K mg base 1 f__law_sides _ ["draft", "dyeing"] m__law_sides := g__law_sides (k := 0) F__law_sides M
  have G__law_draw : FnG l.prog w K mg base 1 f__law_draw _ ["pot", "many"] m__law_draw := g__law_draw (k := 0) F__law_draw M
  have G__law_colours : FnG l.prog w K mg base 2 f__law_colours _ ["pot", "many", "most"] m__law_colours := g__law_colours (k := 1) F__law_colours M ⟨G__law_draw.mono (by decide), PySem.W.mg_of X G a__law_draw, F__law_draw.kp, b__law_draw⟩
  have G__law_draft : FnG l.prog w K mg base 2 f__law_draft _ ["pot", "wefts", "warps"] m__law_draft := g__law_draft (k := 1) F__law_draft M ⟨G__law_draw.mono (by decide), PySem.W.mg_of X G a__law_draw, F__law_draw.kp, b__law_draw⟩
  have G__law_both : FnG l.prog w K mg base 3 f__law_both _ ["pot", "most", "wrong"] m__law_both := g__law_both (k := 2) F__law_both M ⟨G__law_draw.mono (by decide), PySem.W.mg_of X G a__law_draw, F__law_draw.kp, b__law_draw⟩ ⟨G__law_sides.mono (by decide), PySem.W.mg_of X G a__law_sides, F__law_sides.kp, b__law_sides⟩ ⟨G__law_draft.mono (by decide), PySem.W.mg_of X G a__law_draft, F__law_draft.kp, b__law_draft⟩ ⟨G__law_colours.mono (by decide), PySem.W.mg_of X G a__law_colours, F__law_colours.kp, b__law_colours⟩
  have G__law_pictures : FnG l.prog w K mg base 4 f__law_pictures _ ["pot"] m__law_pictures := g__law_pictures (k := 3) F__law_pictures M ⟨G__law_draw.mono (by decide), PySem.W.mg_of X G a__law_draw, F__law_draw.kp, b__law_draw⟩ ⟨G__law_both.mono (by decide), PySem.W.mg_of X G a__law_both, F__law_both.kp, b__law_both⟩
  have G_is_integer : FnG l.prog w K mg base 1 f_is_integer _ ["value"] m_is_integer := g_is_integer (k := 0) F_is_integer M
  have G_is_within : FnG l.prog w K mg base 2 f_is_within _ ["value", "least", "most"] m_is_within := g_is_within (k := 1) F_is_within M ⟨G_is_integer.mono (by decide), PySem.W.mg_of X G a_is_integer, F_is_integer.kp, b_is_integer⟩
  have G_is_full_value : FnG l.prog w K mg base 3 f_is_full_value _ ["value"] m_is_full_value := g_is_full_value (k := 2) F_is_full_value M ⟨G_is_within.mono (by decide), PySem.W.mg_of X G a_is_within, F_is_within.kp, b_is_within⟩
  have G_want_full : FnG l.prog w K mg base 4 f_want_full _ ["picture"] m_want_full := g_want_full (k := 3) F_want_full M ⟨G_is_full_value.mono (by decide), PySem.W.mg_of X G a_is_full_value, F_is_full_value.kp, b_is_full_value⟩
  have G_want_both : FnG l.prog w K mg base 5 f_want_both _ ["front", "back"] m_want_both := g_want_both (k := 4) F_want_both M ⟨G_is_full_value.mono (by decide), PySem.W.mg_of X G a_is_full_value, F_is_full_value.kp, b_is_full_value⟩ ⟨G_want_full.mono (by decide), PySem.W.mg_of X G a_want_full, F_want_full.kp, b_want_full⟩
  have G_other_of : FnG l.prog w K mg base 1 f_other_of _ ["both", "colour"] m_other_of := g_other_of (k := 0) F_other_of M
  have G_both_at : FnG l.prog w K mg base 1 f_both_at _ ["front", "back", "weft", "warp"] m_both_at := g_both_at (k := 0) F_both_at M
  have G_told_by : FnG l.prog w K mg base 2 f_told_by _ ["front", "back", "colour"] m_told_by := g_told_by (k := 1) F_told_by M ⟨G_other_of.mono (by decide), PySem.W.mg_of X G a_other_of, F_other_of.kp, b_other_of⟩ ⟨G_both_at.mono (by decide), PySem.W.mg_of X G a_both_at, F_both_at.kp, b_both_at⟩
  have G_are_both : FnG l.prog w K mg base 1 f_are_both _ ["both", "one", "other"] m_are_both := g_are_both (k := 0) F_are_both M
  have G_is_wrong_at : FnG l.prog w K mg base 2 f_is_wrong_at _ ["front", "back", "told", "weft", "warp"] m_is_wrong_at := g_is_wrong_at (k := 1) F_is_wrong_at M ⟨G_are_both.mono (by decide), PySem.W.mg_of X G a_are_both, F_are_both.kp, b_are_both⟩ ⟨G_both_at.mono (by decide), PySem.W.mg_of X G a_both_at, F_both_at.kp, b_both_at⟩
  have G_first_wrong : FnG l.prog w K mg base 3 f_first_wrong _ ["front", "back", "colour"] m_first_wrong := g_first_wrong (k := 2) F_first_wrong M ⟨G_is_wrong_at.mono (by decide), PySem.W.mg_of X G a_is_wrong_at, F_is_wrong_at.kp, b_is_wrong_at⟩ ⟨G_told_by.mono (by decide), PySem.W.mg_of X G a_told_by, F_told_by.kp, b_told_by⟩
  have G_starts_of : FnG l.prog w K mg base 2 f_starts_of _ ["front", "back"] m_starts_of := g_starts_of (k := 1) F_starts_of M ⟨G_both_at.mono (by decide), PySem.W.mg_of X G a_both_at, F_both_at.kp, b_both_at⟩
  have G_side_bar : FnG l.prog w K mg base 6 f_side_bar _ ["front", "back"] m_side_bar := g_side_bar (k := 5) F_side_bar M ⟨G_starts_of.mono (by decide), PySem.W.mg_of X G a_starts_of, F_starts_of.kp, b_starts_of⟩ ⟨G_first_wrong.mono (by decide), PySem.W.mg_of X G a_first_wrong, F_first_wrong.kp, b_first_wrong⟩ ⟨G_want_both.mono (by decide), PySem.W.mg_of X G a_want_both, F_want_both.kp, b_want_both⟩
  have G_is_list : FnG l.prog w K mg base 1 f_is_list _ ["value"] m_is_list := g_is_list (k := 0) F_is_list M
  have G_is_tuple : FnG l.prog w K mg base 1 f_is_tuple _ ["value", "many"] m_is_tuple := g_is_tuple (k := 0) F_is_tuple M
  have G_many_warps : FnG l.prog w K mg base 1 f_many_warps _ ["draft"] m_many_warps := g_many_warps (k := 0) F_many_warps M
  have G_many_wefts : FnG l.prog w K mg base 1 f_many_wefts _ ["draft"] m_many_wefts := g_many_wefts (k := 0) F_many_wefts M
  have G_is_cell_of : FnG l.prog w K mg base 3 f_is_cell_of _ ["draft", "value"] m_is_cell_of := g_is_cell_of (k := 2) F_is_cell_of M ⟨G_is_within.mono (by decide), PySem.W.mg_of X G a_is_within, F_is_within.kp, b_is_within⟩ ⟨G_many_warps.mono (by decide), PySem.W.mg_of X G a_many_warps, F_many_warps.kp, b_many_warps⟩ ⟨G_many_wefts.mono (by decide), PySem.W.mg_of X G a_many_wefts, F_many_wefts.kp, b_many_wefts⟩ ⟨G_is_tuple.mono (by decide), PySem.W.mg_of X G a_is_tuple, F_is_tuple.kp, b_is_tuple⟩
  have G_is_count : FnG l.prog w K mg base 2 f_is_count _ ["value"] m_is_count := g_is_count (k := 1) F_is_count M ⟨G_is_integer.mono (by decide), PySem.W.mg_of X G a_is_integer, F_is_integer.kp, b_is_integer⟩
  have G_is_side_bar : FnG l.prog w K mg base 6 f_is_side_bar _ ["front", "back", "value"] m_is_side_bar := g_is_side_bar (k := 5) F_is_side_bar M ⟨G_is_wrong_at.mono (by decide), PySem.W.mg_of X G a_is_wrong_at, F_is_wrong_at.kp, b_is_wrong_at⟩ ⟨G_told_by.mono (by decide), PySem.W.mg_of X G a_told_by, F_told_by.kp, b_told_by⟩ ⟨G_is_cell_of.mono (by decide), PySem.W.mg_of X G a_is_cell_of, F_is_cell_of.kp, b_is_cell_of⟩ ⟨G_starts_of.mono (by decide), PySem.W.mg_of X G a_starts_of, F_starts_of.kp, b_starts_of⟩ ⟨G_is_count.mono (by decide), PySem.W.mg_of X G a_is_count, F_is_count.kp, b_is_count⟩ ⟨G_is_tuple.mono (by decide), PySem.W.mg_of X G a_is_tuple, F_is_tuple.kp, b_is_tuple⟩ ⟨G_is_list.mono (by decide), PySem.W.mg_of X G a_is_list, F_is_list.kp, b_is_list⟩ ⟨G_want_both.mono (by decide), PySem.W.mg_of X G a_want_both, F_want_both.kp, b_want_both⟩
  have G__law_is_full : FnG l.prog w K mg base 1 f__law_is_full _ ["value"] m__law_is_full := g__law_is_full (k := 0) F__law_is_full M
  have G__law_pick : FnG l.prog w K mg base 2 f__law_pick _ ["pot", "some"] m__law_pick := g__law_pick (k := 1) F__law_pick M ⟨G__law_draw.mono (by decide), PySem.W.mg_of X G a__law_draw, F__law_draw.kp, b__law_draw⟩
  have G__law_bent : FnG l.prog w K mg base 3 f__law_bent _ ["pot", "front", "told"] m__law_bent := g__law_bent (k := 2) F__law_bent M ⟨G__law_pick.mono (by decide), PySem.W.mg_of X G a__law_pick, F__law_pick.kp, b__law_pick⟩ ⟨G__law_draw.mono (by decide), PySem.W.mg_of X G a__law_draw, F__law_draw.kp, b__law_draw⟩
  have G__law_other : FnG l.prog w K mg base 1 f__law_other _ ["near", "far", "colour"] m__law_other := g__law_other (k := 0) F__law_other M
  have G__law_is_wrong : FnG l.prog w K mg base 2 f__law_is_wrong _ ["front", "back", "colour", "cell"] m__law_is_wrong := g__law_is_wrong (k := 1) F__law_is_wrong M ⟨G__law_other.mono (by decide), PySem.W.mg_of X G a__law_other, F__law_other.kp, b__law_other⟩
  have G__law_is_cell : FnG l.prog w K mg base 1 f__law_is_cell _ ["front", "value"] m__law_is_cell := g__law_is_cell (k := 0) F__law_is_cell M
  have G__law_is_bar : FnG l.prog w K mg base 3 f__law_is_bar _ ["front", "back", "value"] m__law_is_bar := g__law_is_bar (k := 2) F__law_is_bar M ⟨G__law_is_wrong.mono (by decide), PySem.W.mg_of X G a__law_is_wrong, F__law_is_wrong.kp, b__law_is_wrong⟩ ⟨G__law_is_cell.mono (by decide), PySem.W.mg_of X G a__law_is_cell, F__law_is_cell.kp, b__law_is_cell⟩
  have G_is_full : FnG l.prog w K mg base 4 f_is_full _ ["value"] m_is_full := g_is_full (k := 3) F_is_full M ⟨G_is_full_value.mono (by decide), PySem.W.mg_of X G a_is_full_value, F_is_full_value.kp, b_is_full_value⟩
  have G__law_right : FnG l.prog w K mg base 7 f__law_right _ ["pot"] m__law_right := g__law_right (k := 6) F__law_right M ⟨G_is_side_bar.mono (by decide), PySem.W.mg_of X G a_is_side_bar, F_is_side_bar.kp, b_is_side_bar⟩ ⟨G__law_is_bar.mono (by decide), PySem.W.mg_of X G a__law_is_bar, F__law_is_bar.kp, b__law_is_bar⟩ ⟨G__law_bent.mono (by decide), PySem.W.mg_of X G a__law_bent, F__law_bent.kp, b__law_bent⟩ ⟨G_side_bar.mono (by decide), PySem.W.mg_of X G a_side_bar, F_side_bar.kp, b_side_bar⟩ ⟨G__law_both.mono (by decide), PySem.W.mg_of X G a__law_both, F__law_both.kp, b__law_both⟩ ⟨G__law_pictures.mono (by decide), PySem.W.mg_of X G a__law_pictures, F__law_pictures.kp, b__law_pictures⟩ ⟨G_is_full.mono (by decide), PySem.W.mg_of X G a_is_full, F_is_full.kp, b_is_full⟩ ⟨G__law_is_full.mono (by decide), PySem.W.mg_of X G a__law_is_full, F__law_is_full.kp, b__law_is_full⟩ kb_is_full_0_value kb_is_side_bar_0_value_back_front
  have G__law_pot : FnG l.prog w K mg base 1 f__law_pot _ ["script", "k"] m__law_pot := g__law_pot (k := 0) F__law_pot M
  have G_law : FnG l.prog w K mg base 8 fa _ ["script"] m_law := g_law (k := 7) F_law M ⟨G__law_right.mono (by decide), PySem.W.mg_of X G a__law_right, F__law_right.kp, b__law_right⟩ ⟨G__law_pot.mono (by decide), PySem.W.mg_of X G a__law_pot, F__law_pot.kp, b__law_pot⟩
  exact G_law
end PK81

set_option Elab.async false
set_option linter.all false
set_option maxRecDepth 100000
set_option maxHeartbeats 4000000
namespace PK81
open PySem DL
@[simp] theorem e_is_integer {v : PyData} (h : okT v = true) : m_is_integer [.d v] = some (.d (.bool (isInt v)), [.d v]) := by
  cases v with
  | dict kvs => rw [okT_dict h]; simp [m_is_integer, defn, isInt, tgIs]
  | _ => simp [m_is_integer, defn, isInt, tgIs]
@[simp] theorem e_is_within {v : PyData} {a b : Int} (h : okT v = true) : m_is_within [.d v, .d (.int a), .d (.int b)] = some (.d (.bool (isIn a b v)), [.d v, .d (.int a), .d (.int b)]) := by
  simp [m_is_within, defn, e_is_integer h]
  cases v with
  | int i =>
    simp [isInt, isIn]
    by_cases h1 : a ≤ i
    · simp [h1]
    · simp [h1, Int.not_le.mp h1]
  | _ => simp [isInt, isIn]
def isTup (n : Int) : PyData → Bool
  | .tuple xs => decide ((xs.length : Int) = n)
  | _ => false
@[simp] theorem e_is_tuple {v : PyData} {n : Int} (h : okT v = true) : m_is_tuple [.d v, .d (.int n)] = some (.d (.bool (isTup n v)), [.d v, .d (.int n)]) := by
  cases v with
  | dict kvs => rw [okT_dict h]; simp [m_is_tuple, defn, tgIs, isTup]
  | _ => simp [m_is_tuple, defn, tgIs, isTup]
def isCount : PyData → Bool
  | .int i => decide (0 ≤ i)
  | _ => false
@[simp] theorem e_is_count {v : PyData} (h : okT v = true) : m_is_count [.d v] = some (.d (.bool (isCount v)), [.d v]) := by
  simp [m_is_count, defn, e_is_integer h]
  cases v with
  | int i => simp [isInt, isCount]
  | _ => simp [isInt, isCount]
def isLs : PyData → Bool
  | .list _ => true
  | .tuple _ => true
  | _ => false
@[simp] theorem e_is_list {v : PyData} (h : okT v = true) : m_is_list [.d v] = some (.d (.bool (isLs v)), [.d v]) := by
  cases v with
  | dict kvs => rw [okT_dict h]; simp [m_is_list, defn, tgIs, isLs]
  | _ => simp [m_is_list, defn, tgIs, isLs]
/-! full pictures -/
def isTpl : PyData → Bool
  | .tuple _ => true
  | _ => false
def cells : PyData → List PyData
  | .tuple xs => xs
  | _ => []
theorem isTy_tpl {x : PyData} (h : okT x = true) : isTy .tuple x = some (isTpl x) := by
  cases x with
  | dict kvs => rw [okT_dict h]; rfl
  | _ => rfl
theorem tpls_of : ∀ {xs : List PyData}, xs.all isTpl = true → ∃ Rs : List (List PyData), xs = Rs.map PyData.tuple
  | [], _ => ⟨[], rfl⟩
  | x :: xs, h => by
    rw [List.all_cons, Bool.and_eq_true] at h
    obtain ⟨Rs, rfl⟩ := tpls_of h.2
    cases x with
    | tuple ys => exact ⟨ys :: Rs, rfl⟩
    | _ => cases h.1
/-- a cell that tells by its text whether it is one of 0 .. 7 -/
def digs : List Str := ["0", "1", "2", "3", "4", "5", "6", "7"]
def okC (x : PyData) : Prop := okT x = true ∧ ∃ t : Str, dRepr [x] = some (.str t) ∧ PyData.strOk t = true ∧ (t ∈ digs ↔ isIn 0 7 x = true)
def okRow (x : PyData) : Prop := okT x = true ∧ ∀ y ∈ cells x, okC y
structure okFull (v : PyData) : Prop where
  t : okT v = true
  r : ∀ x ∈ cells v, okRow x
def fullW (w : Nat) (Rs : List (List PyData)) : Bool := decide (1 ≤ w ∧ w ≤ 12) && (Rs.all fun r => decide (r.length = w)) && Rs.all fun r => r.all (isIn 0 7)
def fullR (Rs : List (List PyData)) : Bool := fullW (Rs.headD []).length Rs
def fullV : PyData → Bool
  | .tuple xs => decide (1 ≤ xs.length ∧ xs.length ≤ 12) && (xs.all isTpl && fullR (xs.map cells))
  | _ => false
theorem cells_map (Rs : List (List PyData)) : (Rs.map PyData.tuple).map cells = Rs := by
  rw [List.map_map]; exact List.map_id' Rs
theorem e_is_full_value {v : PyData} (h : okFull v) : m_is_full_value [.d v] = some (.d (.bool (fullV v)), [.d v]) := by
  obtain ⟨ht, hr⟩ := h
  apply OV.eq
  rw [m_is_full_value, OV_defn]
  cases v with
  | tuple xs =>
    have hr : ∀ x ∈ xs, okRow x := hr
    by_cases h1 : 1 ≤ xs.length
    · by_cases h2 : xs.length ≤ 12
      · have a1 : (1 : Int) ≤ xs.length := by omega
        have a2 : (xs.length : Int) ≤ 12 := by omega
        simp [tgIs, a1, a2, show xs.length < 100000 by omega]
        apply WLc.map (fun x => .bool (isTpl x)) (fun x hx => by simp [isTy_tpl (hr x hx).1])
        cases h3 : xs.all isTpl with
        | false => simp [all_map, fullV, h3]
        | true =>
          obtain ⟨Rs, rfl⟩ := tpls_of h3
          have hr : ∀ R ∈ Rs, ∀ y ∈ R, okC y := fun R hR => (hr (.tuple R) (List.mem_map.mpr ⟨R, hR, rfl⟩)).2
          rw [List.length_map] at h1 h2
          cases Rs with
          | nil => simp at h1
          | cons R0 Rt =>
            have h3' : ((R0 :: Rt).map PyData.tuple).all isTpl = true := h3
            have i0 : L2.atI (R0 :: Rt) 0 = some R0 := by simp [atI_of]
            have e : fullV (.tuple ((R0 :: Rt).map PyData.tuple)) = fullR (R0 :: Rt) := by
              simp only [fullV, cells_map, h3, List.length_map, h1, h2]; simp
            rw [e]
            obtain ⟨Rs, hRs⟩ : ∃ Rs, Rs = R0 :: Rt := ⟨_, rfl⟩
            have hh : Rs.headD [] = R0 := by rw [hRs]; rfl
            rw [← hRs] at i0 hr h1 h2 h3' ⊢
            simp [all_map, h3', i0, -List.map_map]
            have r0 : R0 ∈ Rs := by rw [hRs]; simp
            have fR : fullR Rs = fullW R0.length Rs := by unfold fullR; rw [hh]
            by_cases l1 : 1 ≤ R0.length
            · by_cases l2 : R0.length ≤ 12
              · have b1 : (1 : Int) ≤ R0.length := by omega
                have b2 : (R0.length : Int) ≤ 12 := by omega
                have b3 : ¬ (12 : Int) < R0.length := by omega
                simp [b1, b2, b3, i0, show Rs.length < 100000 by omega]
                apply WLc.mapOf PyData.tuple (fun R => .bool (!decide ((R.length : Int) = R0.length))) (fun R hR => by simp [i0])
                cases h4 : Rs.any (fun R => !decide ((R.length : Int) = R0.length)) with
                | true =>
                  have f : fullR Rs = false := by
                    obtain ⟨R, hR, h5⟩ := List.any_eq_true.mp h4
                    have : ¬ R.length = R0.length := by simp at h5; omega
                    have : (Rs.all fun r => decide (r.length = R0.length)) = false := by
                      rw [List.all_eq_false]; exact ⟨R, hR, by simpa using this⟩
                    rw [fR]; unfold fullW; rw [this, Bool.and_false, Bool.false_and]
                  simp [any_map, h4, f]
                | false =>
                  have h5 : ∀ R ∈ Rs, R.length = R0.length := fun R hR => by
                    have := List.any_eq_false.mp h4 R hR
                    simp at this; omega
                  have f : fullR Rs = Rs.all fun r => r.all (isIn 0 7) := by
                    have : (Rs.all fun r => decide (r.length = R0.length)) = true := by
                      rw [List.all_eq_true]; exact fun R hR => by simpa using h5 R hR
                    rw [fR]; unfold fullW; rw [this, decide_eq_true (⟨l1, l2⟩ : 1 ≤ R0.length ∧ R0.length ≤ 12)]; rfl
                  simp [any_map, h4, show Rs.length < 100000 by omega]
                  apply WLc.mapOf PyData.tuple (fun R => .bool (R.all (isIn 0 7))) (fun R hR => by
                    have := h5 R hR
                    simp [show R.length < 100000 by omega]
                    apply WLc.map (fun y => .bool (isIn 0 7 y)) (fun y hy => by simp [(hr R hR y hy).1])
                    simp [all_map])
                  simp [all_map, f]
              · have b1 : (1 : Int) ≤ R0.length := by omega
                have b2 : (12 : Int) < R0.length := by omega
                have f : fullR Rs = false := by rw [fR]; unfold fullW; rw [decide_eq_false (fun h => l2 h.2)]; rfl
                simp [b1, b2, f]
            · have b1 : R0 = [] := List.eq_nil_of_length_eq_zero (by omega)
              have f : fullR Rs = false := by rw [fR]; unfold fullW; rw [decide_eq_false (fun h => l1 h.1)]; rfl
              simp [b1, f]
      · have a1 : (1 : Int) ≤ xs.length := by omega
        have a2 : (12 : Int) < xs.length := by omega
        simp [tgIs, a1, a2, fullV, h2]
    · have a1 : xs = [] := List.eq_nil_of_length_eq_zero (by omega)
      simp [tgIs, a1, fullV]
  | dict kvs => rw [okT_dict ht]; simp [tgIs, fullV]
  | _ => simp [tgIs, fullV]
end PK81

set_option Elab.async false
set_option linter.all false
set_option maxRecDepth 100000
set_option maxHeartbeats 4000000
namespace PK81
open PySem DL
theorem dRepr_ok {x : PyData} (h : reprOk x = true) : dRepr [x] = some (.str x.shown) := by
  show (if _ then _ else _) = _
  rw [if_pos h]
theorem strOk_app (a b : Str) : PyData.strOk (a ++ b) = (PyData.strOk a && PyData.strOk b) := by
  unfold PyData.strOk
  rw [Str.cps_append, Array.all_append]
theorem strOk_join : ∀ ts : List Str, (∀ t ∈ ts, PyData.strOk t = true) → PyData.strOk (Str.join ", " ts) = true
  | [], _ => by decide +kernel
  | [x], h => h x (by simp)
  | x :: y :: r, h => by
    show PyData.strOk (x ++ ((", " : String) : Str) ++ Str.join ", " (y :: r)) = true
    rw [strOk_app, strOk_app, h x (by simp), strOk_join (y :: r) fun t ht => h t (by simp at ht ⊢; exact .inr ht)]
    decide +kernel
theorem okC_of {x : PyData} (t : Str) (h0 : okT x = true) (h : reprOk x = true) (h1 : x.shown = t) (h2 : PyData.strOk t = true) (h3 : t ∈ digs ↔ isIn 0 7 x = true) : okC x :=
  ⟨h0, t, by rw [dRepr_ok h, h1], h2, h3⟩
theorem okC_int {k : Int} (h1 : -1 ≤ k) (h2 : k ≤ 8) : okC (.int k) := by
  have h : k = -1 ∨ k = 0 ∨ k = 1 ∨ k = 2 ∨ k = 3 ∨ k = 4 ∨ k = 5 ∨ k = 6 ∨ k = 7 ∨ k = 8 := by omega
  rcases h with h | h | h | h | h | h | h | h | h | h <;> subst h
  · exact okC_of "-1" rfl (by decide +kernel) (by decide +kernel) (by decide +kernel) (by decide +kernel)
  · exact okC_of "0" rfl (by decide +kernel) (by decide +kernel) (by decide +kernel) (by decide +kernel)
  · exact okC_of "1" rfl (by decide +kernel) (by decide +kernel) (by decide +kernel) (by decide +kernel)
  · exact okC_of "2" rfl (by decide +kernel) (by decide +kernel) (by decide +kernel) (by decide +kernel)
  · exact okC_of "3" rfl (by decide +kernel) (by decide +kernel) (by decide +kernel) (by decide +kernel)
  · exact okC_of "4" rfl (by decide +kernel) (by decide +kernel) (by decide +kernel) (by decide +kernel)
  · exact okC_of "5" rfl (by decide +kernel) (by decide +kernel) (by decide +kernel) (by decide +kernel)
  · exact okC_of "6" rfl (by decide +kernel) (by decide +kernel) (by decide +kernel) (by decide +kernel)
  · exact okC_of "7" rfl (by decide +kernel) (by decide +kernel) (by decide +kernel) (by decide +kernel)
  · exact okC_of "8" rfl (by decide +kernel) (by decide +kernel) (by decide +kernel) (by decide +kernel)
theorem okC_none : okC .none := okC_of "None" rfl (by decide +kernel) (by decide +kernel) (by decide +kernel) (by decide +kernel)
theorem okC_true : okC (.bool true) := okC_of "True" rfl (by decide +kernel) (by decide +kernel) (by decide +kernel) (by decide +kernel)
theorem okC_one : okC (.str "1") := okC_of "'1'" rfl (by decide +kernel) (by decide +kernel) (by decide +kernel) (by decide +kernel)
theorem shownAll_map (xs : List PyData) : PyData.shownAll xs = xs.map PyData.shown := by
  induction xs with
  | nil => simp [PyData.shownAll]
  | cons x xs ih => simp [PyData.shownAll, ih]
/-- a row of colours as a cell -/
theorem okC_row {r : List Int} (h : ∀ k ∈ r, 0 ≤ k ∧ k ≤ 7) (hl : r.length ≤ 1000) : okC (tI r) := by
  have e : (tI r).shown = tupleText ((r.map PyData.int).map PyData.shown) := by
    unfold tI; simp only [PyData.shown]; rw [shownAll_map]
  have hs : ∀ t ∈ (r.map PyData.int).map PyData.shown, PyData.strOk t = true := fun t ht => by
    obtain ⟨x, hx, rfl⟩ := List.mem_map.mp ht
    obtain ⟨k, hk, rfl⟩ := List.mem_map.mp hx
    obtain ⟨_, u, h1, h2, _⟩ := okC_int (k := k) (by have := (h k hk).1; omega) (by have := (h k hk).2; omega)
    have h3 : reprOk (.int k) = true := by
      refine reprOk_of ?_ (by simp [wt]) (by simp [PyData.depth])
      have := h k hk
      simp only [okR, decide_eq_true_eq]; omega
    rw [dRepr_ok h3] at h1
    cases h1
    exact h2
  have hr : okRL (r.map PyData.int) = true := by
    rw [okRL_all]
    intro x hx
    obtain ⟨k, hk, rfl⟩ := List.mem_map.mp hx
    have := h k hk
    simp only [okR, decide_eq_true_eq]; omega
  have hw : wtL (r.map PyData.int) ≤ 23 * r.length := by
    clear h hl e hs hr
    induction r with
    | nil => simp [wtL]
    | cons k r ih => simp only [List.map_cons, wtL, wt, List.length_cons]; omega
  have hd : PyData.depthAll (r.map PyData.int) = 0 := by
    clear h hl e hs hr hw
    induction r with
    | nil => simp [PyData.depthAll]
    | cons k r ih => simp [PyData.depthAll, PyData.depth, ih]
  refine okC_of _ rfl (reprOk_of (by unfold tI; simp only [okR]; exact hr) (by unfold tI; simp only [wt]; omega) (by unfold tI; simp only [PyData.depth, hd]; omega)) e ?_ ?_
  · unfold tupleText
    rw [strOk_app, strOk_app, strOk_join _ hs]
    split <;> decide +kernel
  · have hl2 : 2 ≤ (tupleText ((r.map PyData.int).map PyData.shown)).length := by
      unfold tupleText
      rw [strLen_append, strLen_append]
      have a1 : (("(" : Str)).length = 1 := by decide +kernel
      have a2 : (((",)" : String)) : Str).length = 2 := by decide +kernel
      have a3 : ((")" : String) : Str).length = 1 := by decide +kernel
      split
      · rw [a1, a2]; omega
      · rw [a1, a3]; omega
    constructor
    · intro hm
      have : ∀ t ∈ digs, t.length = 1 := by decide +kernel
      have := this _ hm
      omega
    · intro hm; cases hm
theorem okC_tup1 : okC (.tuple [.int 1]) := okC_row (r := [1]) (by simp) (by simp)
theorem in_strsL {a : Str} {ss : List Str} (h : PyData.strOk a = true) (hs : ss.all PyData.strOk = true) : dIn (.str a) (.list (ss.map .str)) = some (.bool (decide (a ∈ ss))) := by
  have h2 : fitN 60 (.list (ss.map .str)) = true := by
    rw [fit_list, List.all_map, List.all_eq_true]
    intro x hx
    simpa [fit_str] using List.all_eq_true.mp hs x hx
  have h1 : fitN 60 (.str a) = true := by rw [fit_str]; exact h
  unfold dIn; rw [if_pos ⟨h1, h2⟩]; simp only [dItems, Option.map_some, any_str]
theorem in_digs {a : Str} (h : PyData.strOk a = true) : dIn (.str a) (.list [.str "0", .str "1", .str "2", .str "3", .str "4", .str "5", .str "6", .str "7"]) = some (.bool (decide (a ∈ digs))) := in_strsL (ss := digs) h (by decide +kernel)
def gd (w : Nat) (R : List PyData) : Bool := decide (1 ≤ R.length ∧ R.length ≤ 12) && decide (R.length = w)
theorem e_law_is_full {v : PyData} (h : okFull v) : m__law_is_full [.d v] = some (.d (.bool (fullV v)), [.d v]) := by
  obtain ⟨ht, hr⟩ := h
  apply OV.eq
  rw [m__law_is_full, OV_defn]
  cases v with
  | tuple xs =>
    have hr : ∀ x ∈ xs, okRow x := hr
    by_cases h1 : 1 ≤ xs.length
    · by_cases h2 : xs.length ≤ 12
      · have a1 : (1 : Int) ≤ xs.length := by omega
        have a2 : (xs.length : Int) ≤ 12 := by omega
        simp [tgIs, a1, a2, show xs.length < 100000 by omega]
        apply WLc.map (fun x => .bool (isTpl x)) (fun x hx => by simp [isTy_tpl (hr x hx).1])
        cases h3 : xs.all isTpl with
        | false => simp [all_map, fullV, h3]
        | true =>
          obtain ⟨Rs, rfl⟩ := tpls_of h3
          have hr : ∀ R ∈ Rs, ∀ y ∈ R, okC y := fun R hR => (hr (.tuple R) (List.mem_map.mpr ⟨R, hR, rfl⟩)).2
          rw [List.length_map] at h1 h2
          cases Rs with
          | nil => simp at h1
          | cons R0 Rt =>
            have h3' : ((R0 :: Rt).map PyData.tuple).all isTpl = true := h3
            have i0 : L2.atI (R0 :: Rt) 0 = some R0 := by simp [atI_of]
            have e : fullV (.tuple ((R0 :: Rt).map PyData.tuple)) = fullR (R0 :: Rt) := by
              simp only [fullV, cells_map, h3, List.length_map, h1, h2]; simp
            rw [e]
            obtain ⟨Rs, hRs⟩ : ∃ Rs, Rs = R0 :: Rt := ⟨_, rfl⟩
            have hh : Rs.headD [] = R0 := by rw [hRs]; rfl
            rw [← hRs] at i0 hr h1 h2 h3' ⊢
            simp [all_map, h3', i0, -List.map_map]
            have r0 : R0 ∈ Rs := by rw [hRs]; simp
            have fR : fullR Rs = fullW R0.length Rs := by unfold fullR; rw [hh]
            refine ⟨by omega, ?_⟩
            apply WLc.mapOf PyData.tuple (fun R => .bool (gd R0.length R)) (fun R hR => by
              simp [i0]
              have q1 : ((1 : Int) ≤ R.length) = (1 ≤ R.length) := by rw [eq_iff_iff]; omega
              have q2 : ((R.length : Int) ≤ 12) = (R.length ≤ 12) := by rw [eq_iff_iff]; omega
              have q3 : ((R.length : Int) = R0.length) = (R.length = R0.length) := by rw [eq_iff_iff]; omega
              simp only [q1, q2, q3]
              by_cases p1 : 1 ≤ R.length <;> by_cases p2 : R.length ≤ 12 <;> simp [gd, p1, p2])
            cases h4 : Rs.all (gd R0.length) with
            | false =>
              have f : fullR Rs = false := by
                rw [fR]
                obtain ⟨R, hR, h5⟩ := List.all_eq_false.mp h4
                cases z : fullW R0.length Rs with
                | false => rfl
                | true =>
                  exfalso
                  simp only [fullW, Bool.and_eq_true, decide_eq_true_eq] at z
                  have := List.all_eq_true.mp z.1.2 R hR
                  have z1 := z.1.1
                  simp only [decide_eq_true_eq] at this
                  apply h5
                  simp [gd, this, z1]
              simp [all_map, h4, f]
            | true =>
              have h5 : ∀ R ∈ Rs, (1 ≤ R.length ∧ R.length ≤ 12) ∧ R.length = R0.length := fun R hR => by
                have := List.all_eq_true.mp h4 R hR
                simp only [gd, Bool.and_eq_true, decide_eq_true_eq] at this
                exact this
              have f : fullR Rs = Rs.all fun r => r.all (isIn 0 7) := by
                have : (Rs.all fun r => decide (r.length = R0.length)) = true := by
                  rw [List.all_eq_true]; exact fun R hR => by simpa using (h5 R hR).2
                rw [fR]; unfold fullW; rw [this, decide_eq_true (h5 R0 r0).1]; rfl
              simp [all_map, h4, show Rs.length < 100000 by omega]
              apply WLc.mapOf PyData.tuple (fun R => .bool (R.all (isIn 0 7))) (fun R hR => by
                have := h5 R hR
                simp [show R.length < 100000 by omega]
                apply WLc.map (fun y => .bool (isIn 0 7 y)) (fun y hy => by
                  obtain ⟨o1, t, o2, o3, o4⟩ := hr R hR y hy
                  simp [o2, in_digs o3, o4])
                simp [all_map])
              simp [all_map, f]
      · have a1 : (1 : Int) ≤ xs.length := by omega
        have a2 : (12 : Int) < xs.length := by omega
        simp [tgIs, a1, a2, fullV, h2]
    · have a1 : xs = [] := List.eq_nil_of_length_eq_zero (by omega)
      simp [tgIs, a1, fullV]
  | dict kvs => rw [okT_dict ht]; simp [tgIs, fullV]
  | _ => simp [tgIs, fullV]
end PK81

set_option Elab.async false
set_option linter.all false
set_option maxRecDepth 100000
set_option maxHeartbeats 4000000
namespace PK81
open PySem DL
/-! draws -/
theorem ixN_0 : L2.ixN 2 0 = some 0 := by decide
theorem ixN_1 : L2.ixN 2 1 = some 1 := by decide
theorem cdiv {i n : Int} (h1 : 0 < n) (h2 : n < 1000000) : L2.CDiv i n := ⟨h1, by omega⟩
theorem w_draw {a b n : Int} (h1 : 0 < n) (h2 : n < 1000) {Q : SD × List SD → Prop} (k : ∀ r a' b', 0 ≤ r → r < n → Q (.d (.int r), [P a' b', .d (.int n)])) : OV (m__law_draw [P a b, .d (.int n)]) Q := by
  have c1 : L2.CDiv a n := cdiv h1 (by omega)
  have c2 : L2.CMul b 39373 := .inr ⟨by decide, by decide⟩
  have hb1 : 0 ≤ (b * 39373 + 1087) % 2147483587 := Int.emod_nonneg _ (by decide)
  have hb2 : (b * 39373 + 1087) % 2147483587 < 2147483587 := Int.emod_lt_of_pos _ (by decide)
  have c3 : L2.CMul ((b * 39373 + 1087) % 2147483587) ((b * 39373 + 1087) % 2147483587) := .inl ⟨by omega, by omega⟩
  have c4 : ∀ t, L2.CDiv (t % 2147483563) 19 := fun t => cdiv (by decide) (by decide)
  rw [m__law_draw, OV_defn]
  by_cases ha : 0 < a
  · simp [ha, c1, ixN_0]
    exact k _ _ _ (Int.emod_nonneg _ (by omega)) (Int.emod_lt_of_pos _ h1)
  · simp [ha, c2, ixN_1, c3, c4, h1]
    exact k _ _ _ (Int.emod_nonneg _ (by omega)) (Int.emod_lt_of_pos _ h1)
theorem w_pick {a b : Int} {xs : List PyData} (h : 1 ≤ xs.length) (h2 : xs.length < 1000) {Q : SD × List SD → Prop} (k : ∀ x a' b', x ∈ xs → Q (.d x, [P a' b', .d (.list xs)])) : OV (m__law_pick [P a b, .d (.list xs)]) Q := by
  rw [m__law_pick, OV_defn]
  simp
  apply w_draw (by omega) (by omega)
  intro r a' b' h3 h4
  have h5 : r.toNat < xs.length := by omega
  simp [atI_of h3, List.getElem?_eq_getElem h5]
  exact k _ _ _ (List.getElem_mem h5)
/-- rows of colours: m rows, n in each, none above c -/
structure Pc (A : List (List Int)) (m n : Nat) (c : Int) : Prop where
  l : A.length = m
  w : ∀ r ∈ A, r.length = n
  c : ∀ r ∈ A, ∀ x ∈ r, 0 ≤ x ∧ x ≤ c
theorem w_draft {a b : Int} {m n : Nat} (h1 : m ≤ 12) (h2 : n ≤ 12) {Q : SD × List SD → Prop} (k : ∀ rows a' b', Pc rows m n 1 → Q (.d (drD rows), [P a' b', .d (.int m), .d (.int n)])) : OV (m__law_draft [P a b, .d (.int m), .d (.int n)]) Q := by
  rw [m__law_draft, OV_defn]
  simp [rngI_nat m (show m ≤ 100000 by omega)]
  refine ⟨by omega, ?_⟩
  apply WLc.potE tI (fun r => r.length = n ∧ ∀ x ∈ r, 0 ≤ x ∧ x ≤ 1) (fun x hx a b => by
    simp [rngI_nat n (show n ≤ 100000 by omega)]
    refine ⟨by omega, ?_⟩
    apply WLc.potE PyData.int (fun x => 0 ≤ x ∧ x ≤ 1) (fun x hx a b => by
      simp
      apply w_draw (by omega) (by omega)
      intro r a' b' h3 h4
      simp
      exact ⟨h3, by omega⟩)
    intro ys a b l1 l2
    simp at l1
    simp
    exact ⟨ys, rfl, l1, l2⟩)
  intro rows a b l1 l2
  simp at l1
  simp
  exact k rows _ _ ⟨l1, fun r hr => (l2 r hr).1, fun r hr => (l2 r hr).2⟩
theorem w_colours {a b c : Int} {n : Nat} (h1 : n ≤ 12) (h2 : 0 < c) (h3 : c < 1000) {Q : SD × List SD → Prop} (k : ∀ cs a' b', cs.length = n → (∀ x ∈ cs, 0 ≤ x ∧ x < c) → Q (.d (tI cs), [P a' b', .d (.int n), .d (.int c)])) : OV (m__law_colours [P a b, .d (.int n), .d (.int c)]) Q := by
  rw [m__law_colours, OV_defn]
  simp [rngI_nat n (show n ≤ 100000 by omega)]
  refine ⟨by omega, ?_⟩
  apply WLc.potE PyData.int (fun x => 0 ≤ x ∧ x < c) (fun x hx a b => by
    simp
    apply w_draw (by omega) (by omega)
    intro r a' b' h3 h4
    simp
    exact ⟨h3, h4⟩)
  intro ys a b l1 l2
  simp at l1
  simp
  exact k ys _ _ l1 l2
theorem w_sides {rows : List (List Int)} {ws fs : List Int} {m n : Nat} {c : Int} (v : Pc rows m n 1) (h1 : m ≤ 12) (h2 : n ≤ 12) (lw : ws.length = n) (lf : fs.length = m) (cw : ∀ x ∈ ws, 0 ≤ x ∧ x ≤ c) (cf : ∀ x ∈ fs, 0 ≤ x ∧ x ≤ c) {Q : SD × List SD → Prop}
    (k : ∀ A B, Pc A m n c → Pc B m n c → Q (.d (.tuple [tT A, tT B]), [.d (drD rows), .d (.tuple [tI ws, tI fs])])) : OV (m__law_sides [.d (drD rows), .d (.tuple [tI ws, tI fs])]) Q := by
  have i0 : L2.atI [tI ws, tI fs] 0 = some (tI ws) := by simp [atI_of]
  have i1 : L2.atI [tI ws, tI fs] 1 = some (tI fs) := by simp [atI_of]
  have vl := v.l
  rw [m__law_sides, OV_defn]
  simp
  apply WFor.invOfA (fun p : List Int × Nat => PyData.tuple [.int (p.2 : Nat), tI p.1]) (fun pre S => ∃ f g t4 t5 t6 t7 t8 t9 t10 t11, S = [.d (drD rows), .d (.tuple [tI ws, tI fs]), .own false (f.map tI), .own false (g.map tI), t4, t5, t6, t7, t8, t9, t10, t11] ∧ Pc f pre.length n c ∧ Pc g pre.length n c) ⟨[], [], _, _, _, _, _, _, _, _, rfl, ⟨rfl, by simp, by simp⟩, ⟨rfl, by simp, by simp⟩⟩
  · rintro pre ⟨row, i⟩ post S he ⟨f, g, t4, t5, t6, t7, t8, t9, t10, t11, rfl, hf, hg⟩
    obtain ⟨hi, hrows⟩ := zipIdx_split he
    have hrow : row ∈ rows := by rw [hrows]; simp
    have hil : i < m := by rw [← vl, hrows, hi]; simp
    have hf5 : (i : Int) < fs.length := by omega
    have hrl := v.w row hrow
    have fl := hf.l
    have gl := hg.l
    have pl : pre.length ≤ 12 := by omega
    simp
    apply WFor.invOfA (fun p : Int × Nat => PyData.tuple [.int (p.2 : Nat), .int p.1]) (fun pre2 S => ∃ u w t8 t9 t10 t11, S = [.d (drD rows), .d (.tuple [tI ws, tI fs]), .own false (f.map tI), .own false (g.map tI), .d (.int (i : Nat)), .d (tI row), .own false (u.map .int), .own false (w.map .int), t8, t9, t10, t11] ∧ u.length = pre2.length ∧ w.length = pre2.length ∧ (∀ x ∈ u, 0 ≤ x ∧ x ≤ c) ∧ ∀ x ∈ w, 0 ≤ x ∧ x ≤ c) ⟨[], [], _, _, _, _, rfl, rfl, rfl, by simp, by simp⟩
    · rintro pre2 ⟨one, j⟩ post2 S he2 ⟨u, w, t8, t9, t10, t11, rfl, ul, wl, uc, wc⟩
      obtain ⟨hj, hrow2⟩ := zipIdx_split he2
      have hjl : j < n := by rw [← hrl, hrow2, hj]; simp
      have hw5 : (j : Int) < ws.length := by omega
      have e1 := nth_mem (show (0 : Int) ≤ j by omega) hw5
      have e2 := nth_mem (show (0 : Int) ≤ i by omega) hf5
      have n1 := atI_nth (show (0 : Int) ≤ j by omega) hw5
      have n2 := atI_nth (show (0 : Int) ≤ i by omega) hf5
      have p2 : pre2.length ≤ 12 := by omega
      obtain ⟨p, hp⟩ : ∃ p, p = nth ws (j : Int) := ⟨_, rfl⟩
      obtain ⟨q, hq⟩ : ∃ q, q = nth fs (i : Int) := ⟨_, rfl⟩
      rw [← hp] at n1 e1
      rw [← hq] at n2 e2
      have cp := cw p e1
      have cq := cf q e2
      have fin : ∀ (x : Int) (l : List Int), (0 ≤ x ∧ x ≤ c) → (∀ x ∈ l, 0 ≤ x ∧ x ≤ c) → ∀ y ∈ l ++ [x], 0 ≤ y ∧ y ≤ c := fun x l hx hl y hy => by
        rcases List.mem_append.mp hy with hy | hy
        · exact hl y hy
        · rw [List.mem_singleton.mp hy]; exact hx
      have ull : u.length < 100000 := by omega
      have wll : w.length < 100000 := by omega
      by_cases h : one = 1
      · simp [i0, i1, n1, n2, h, ull, wll]
        exact ⟨u ++ [p], w ++ [q], _, _, _, _, by rw [List.map_append, List.map_append]; rfl, by simp [ul], by simp [wl], fin p u cp uc, fin q w cq wc⟩
      · simp [i0, i1, n1, n2, h, ull, wll]
        exact ⟨u ++ [q], w ++ [p], _, _, _, _, by rw [List.map_append, List.map_append]; rfl, by simp [ul], by simp [wl], fin q u cq uc, fin p w cp wc⟩
    · rintro S ⟨u, w, t8, t9, t10, t11, rfl, ul, wl, uc, wc⟩
      simp at ul wl
      have fll : f.length < 100000 := by omega
      have gll : g.length < 100000 := by omega
      simp [fll, gll]
      refine ⟨f ++ [u], g ++ [w], _, _, _, _, _, _, _, _, by rw [List.map_append, List.map_append]; rfl, ⟨by simp [fl], fun r hr => ?_, fun r hr => ?_⟩, ⟨by simp [gl], fun r hr => ?_, fun r hr => ?_⟩⟩
      · rcases List.mem_append.mp hr with hr | hr
        · exact hf.w r hr
        · rw [List.mem_singleton.mp hr]; omega
      · rcases List.mem_append.mp hr with hr | hr
        · exact hf.c r hr
        · rw [List.mem_singleton.mp hr]; exact uc
      · rcases List.mem_append.mp hr with hr | hr
        · exact hg.w r hr
        · rw [List.mem_singleton.mp hr]; omega
      · rcases List.mem_append.mp hr with hr | hr
        · exact hg.c r hr
        · rw [List.mem_singleton.mp hr]; exact wc
  · rintro S ⟨f, g, t4, t5, t6, t7, t8, t9, t10, t11, rfl, hf, hg⟩
    simp at hf hg
    rw [vl] at hf hg
    simp
    exact k f g hf hg
end PK81

set_option Elab.async false
set_option linter.all false
set_option maxRecDepth 100000
set_option maxHeartbeats 4000000
namespace PK81
open PySem DL
def lI (r : List Int) : PyData := .list (r.map .int)
def lT (A : List (List Int)) : PyData := .list (A.map lI)
theorem ixN_in {n : Nat} {i : Int} (h1 : 0 ≤ i) (h2 : i < n) : L2.ixN n i = some i.toNat := by
  unfold L2.ixN; rw [if_pos h1, if_pos h2]
theorem put2_pc {A : List (List Int)} {m n : Nat} {c l k x : Int} (v : Pc A m n c) (l1 : 0 ≤ l) (l2 : l < m) (k1 : 0 ≤ k) (k2 : k < n) (x1 : 0 ≤ x) (x2 : x ≤ c) : ∃ A', put2 l k (.int x) (lT A) = some (lT A') ∧ Pc A' m n c := by
  have vl := v.l
  have hl : l.toNat < A.length := by omega
  have hw := v.w _ (List.getElem_mem hl)
  refine ⟨A.set l.toNat ((A[l.toNat]).set k.toNat x), ?_, ?_⟩
  · unfold lT put2
    simp only [List.length_map]
    rw [ixN_in l1 (by omega), Option.bind_some, List.getElem?_map, List.getElem?_eq_getElem hl, Option.map_some, Option.bind_some]
    unfold lI put1
    simp only [List.length_map]
    rw [ixN_in k1 (by omega), Option.map_some, Option.map_some, List.map_set, List.map_set]
  · refine ⟨by rw [List.length_set]; exact vl, fun r hr => ?_, fun r hr y hy => ?_⟩
    · rcases List.mem_or_eq_of_mem_set hr with h | h
      · exact v.w r h
      · rw [h, List.length_set]; exact hw
    · rcases List.mem_or_eq_of_mem_set hr with h | h
      · exact v.c r h y hy
      · rw [h] at hy
        rcases List.mem_or_eq_of_mem_set hy with h2 | h2
        · exact v.c _ (List.getElem_mem hl) y h2
        · rw [h2]; exact ⟨x1, x2⟩
theorem put3_pc {A B : List (List Int)} {m n : Nat} {c s l k x : Int} (v : Pc A m n c) (u : Pc B m n c) (s1 : 0 ≤ s) (s2 : s < 2) (l1 : 0 ≤ l) (l2 : l < m) (k1 : 0 ≤ k) (k2 : k < n) (x1 : 0 ≤ x) (x2 : x ≤ c) :
    ∃ A' B', put3 s l k (.int x) (.list [lT A, lT B]) = some (.list [lT A', lT B']) ∧ Pc A' m n c ∧ Pc B' m n c := by
  have h : s = 0 ∨ s = 1 := by omega
  rcases h with rfl | rfl
  · obtain ⟨A', h1, h2⟩ := put2_pc v l1 l2 k1 k2 x1 x2
    refine ⟨A', B, ?_, h2, u⟩
    show ((L2.ixN 2 0).bind fun j => ([lT A, lT B][j]?).bind fun t => (put2 l k (.int x) t).map fun t' => PyData.list ([lT A, lT B].set j t')) = _
    rw [ixN_0, Option.bind_some]
    show (put2 l k (.int x) (lT A)).map _ = _
    rw [h1]; rfl
  · obtain ⟨B', h1, h2⟩ := put2_pc u l1 l2 k1 k2 x1 x2
    refine ⟨A, B', ?_, v, h2⟩
    show ((L2.ixN 2 1).bind fun j => ([lT A, lT B][j]?).bind fun t => (put2 l k (.int x) t).map fun t' => PyData.list ([lT A, lT B].set j t')) = _
    rw [ixN_1, Option.bind_some]
    show (put2 l k (.int x) (lT B)).map _ = _
    rw [h1]; rfl
@[simp] theorem items_lT (A : List (List Int)) : dItems (lT A) = some (A.map lI) := rfl
@[simp] theorem tup_lI1 (r : List Int) : dTuple [lI r] = some (tI r) := rfl
theorem w_both {a b : Int} {k w : Int} (h1 : 1 ≤ k) (h2 : k ≤ 6) (w1 : 0 ≤ w) (w2 : w ≤ 100) {Q : SD × List SD → Prop}
    (hQ : ∀ A B m n a' b', Pc A m n 4 → Pc B m n 4 → 1 ≤ m → (m : Int) ≤ k → 1 ≤ n → (n : Int) ≤ k → Q (.d (.tuple [tT A, tT B]), [P a' b', .d (.int k), .d (.int w)])) : OV (m__law_both [P a b, .d (.int k), .d (.int w)]) Q := by
  rw [m__law_both, OV_defn]
  simp
  apply w_draw (by omega) (by omega)
  intro m a b m1 m2
  simp
  apply w_draw (by omega) (by omega)
  intro n a b n1 n2
  obtain ⟨M, hM⟩ : ∃ M : Nat, 1 + m = (M : Int) := ⟨(1 + m).toNat, by omega⟩
  obtain ⟨N, hN⟩ : ∃ N : Nat, 1 + n = (N : Int) := ⟨(1 + n).toNat, by omega⟩
  simp [hM, hN]
  apply w_draw (by omega) (by omega)
  intro f a b f1 f2
  simp
  apply w_colours (by omega) (by omega) (by omega)
  intro ws a b lw cw
  simp
  apply w_colours (by omega) (by omega) (by omega)
  intro fs a b lf cf
  simp
  apply w_draft (by omega) (by omega)
  intro rows a b v
  simp
  apply w_sides v (by omega) (by omega) lw lf (c := 4) (fun x hx => by have := cw x hx; omega) (fun x hx => by have := cf x hx; omega)
  intro A B pA pB
  have lA := pA.l
  have lB := pB.l
  simp [show A.length < 100000 by omega, show B.length < 100000 by omega]
  apply WLc.mapOf tI lI (fun r hr => by simp [lI])
  simp [show B.length < 100000 by omega]
  apply WLc.mapOf tI lI (fun r hr => by simp [lI])
  simp
  apply w_draw (by omega) (by omega)
  intro g a b g1 g2
  simp [rngI_int (show 0 ≤ g by omega) (by omega)]
  apply WTF.invA (fun pre S tr => ∃ A1 B1 a b t10 t11 t12 t13, S = [P a b, .d (.int k), .d (.int w), .d (.int M), .d (.int N), .d (.int (1 + f)), .d (.tuple [tI ws, tI fs]), .d (tT A), .d (tT B), .un, t10, t11, t12, t13, .un] ∧ tr = .list [lT A1, lT B1] ∧ Pc A1 M N 4 ∧ Pc B1 M N 4) ⟨A, B, _, _, _, _, _, _, rfl, rfl, pA, pB⟩
  · rintro pre x post S tr he ⟨A1, B1, a, b, t10, t11, t12, t13, rfl, rfl, p1, p2⟩
    simp
    apply w_draw (by omega) (by omega)
    intro i1 a b i3 i4
    simp
    apply w_draw (by omega) (by omega)
    intro i2 a b j3 j4
    simp
    apply w_draw (by omega) (by omega)
    intro i3' a b k3 k4
    simp
    apply w_draw (by omega) (by omega)
    intro z a b z3 z4
    obtain ⟨A2, B2, e1, q1, q2⟩ := put3_pc p1 p2 i3 i4 j3 j4 k3 k4 z3 (show z ≤ 4 by omega)
    simp [e1]
    exact ⟨A2, B2, _, _, _, _, _, _, rfl, rfl, q1, q2⟩
  · rintro S tr ⟨A1, B1, a, b, t10, t11, t12, t13, rfl, rfl, p1, p2⟩
    have l1 := p1.l
    have l2 := p2.l
    have i0 : L2.atI [lT A1, lT B1] 0 = some (lT A1) := by simp [atI_of]
    have i1 : L2.atI [lT A1, lT B1] 1 = some (lT B1) := by simp [atI_of]
    simp [i0, i1, show A1.length < 100000 by omega]
    apply WLc.mapOf lI tI (fun r hr => by simp)
    simp [i0, i1, show B1.length < 100000 by omega]
    apply WLc.mapOf lI tI (fun r hr => by simp)
    simp
    exact hQ A1 B1 M N _ _ p1 p2 (by omega) (by omega) (by omega) (by omega)
end PK81

set_option Elab.async false
set_option linter.all false
set_option maxRecDepth 100000
set_option maxHeartbeats 4000000
namespace PK81
open PySem DL
structure Cw (y : PyData) : Prop where
  c : okC y
  ok : okR y = true
  wt : DL.wt y ≤ 100
  d : y.depth ≤ 1
structure Rw (x : PyData) : Prop where
  r : okRow x
  ok : okR x = true
  wt : DL.wt x ≤ 5000
  d : x.depth ≤ 2
def okP (v : PyData) : Prop := okFull v ∧ reprOk v = true
theorem wtL_le {w : Nat} : ∀ {xs : List PyData}, (∀ x ∈ xs, DL.wt x ≤ w) → wtL xs ≤ (w + 2) * xs.length
  | [], _ => by simp [wtL]
  | x :: xs, h => by
    have h1 := h x (by simp)
    have h2 := wtL_le (xs := xs) fun y hy => h y (List.mem_cons_of_mem _ hy)
    simp only [wtL, List.length_cons, Nat.mul_add]
    omega
theorem depth_list {xs : List PyData} {n : Nat} (h : ∀ x ∈ xs, x.depth ≤ n) : (PyData.list xs).depth ≤ n + 1 := by
  have := depth_tuple h
  simpa only [PyData.depth] using this
theorem Cw.int {k : Int} (h1 : -1 ≤ k) (h2 : k ≤ 8) : Cw (.int k) := ⟨okC_int h1 h2, by simp only [okR, decide_eq_true_eq]; omega, by simp [DL.wt], by simp [PyData.depth]⟩
theorem Cw.row {r : List Int} (h : ∀ k ∈ r, 0 ≤ k ∧ k ≤ 7) (hl : r.length ≤ 4) : Cw (tI r) := by
  refine ⟨okC_row h (by omega), ?_, ?_, ?_⟩
  · unfold tI; simp only [okR]; rw [okRL_all]
    intro x hx
    obtain ⟨k, hk, rfl⟩ := List.mem_map.mp hx
    have := h k hk
    simp only [okR, decide_eq_true_eq]; omega
  · unfold tI; simp only [DL.wt]
    have := wtL_le (w := 21) (xs := r.map PyData.int) fun x hx => by
      obtain ⟨k, hk, rfl⟩ := List.mem_map.mp hx
      simp [DL.wt]
    rw [List.length_map] at this
    omega
  · unfold tI
    exact depth_tuple (n := 0) fun x hx => by
      obtain ⟨k, hk, rfl⟩ := List.mem_map.mp hx
      simp [PyData.depth]
theorem Cw.non : Cw .none := ⟨okC_none, by simp [okR], by simp [DL.wt], by simp [PyData.depth]⟩
theorem Cw.tru : Cw (.bool true) := ⟨okC_true, by simp [okR], by simp [DL.wt], by simp [PyData.depth]⟩
theorem Cw.one : Cw (.str "1") := ⟨okC_one, by simp [okR], by
  have : (reprText "1").length ≤ 100 := by decide +kernel
  simpa [DL.wt] using this, by simp [PyData.depth]⟩
theorem Cw.tup1 : Cw (.tuple [.int 1]) := Cw.row (r := [1]) (by simp) (by simp)
theorem Rw.tup {ys : List PyData} (h : ∀ y ∈ ys, Cw y) (hl : ys.length ≤ 48) : Rw (.tuple ys) := by
  refine ⟨⟨rfl, fun y hy => (h y hy).c⟩, ?_, ?_, depth_tuple fun y hy => (h y hy).d⟩
  · simp only [okR]; rw [okRL_all]; exact fun y hy => (h y hy).ok
  · simp only [DL.wt]
    have := wtL_le (w := 100) fun y hy => (h y hy).wt
    omega
theorem Rw.row {r : List Int} (h : ∀ k ∈ r, -1 ≤ k ∧ k ≤ 8) (hl : r.length ≤ 48) : Rw (tI r) := Rw.tup (fun y hy => by
  obtain ⟨k, hk, rfl⟩ := List.mem_map.mp hy
  exact Cw.int (h k hk).1 (h k hk).2) (by simpa using hl)
theorem Rw.non : Rw .none := ⟨⟨rfl, fun y hy => by cases hy⟩, by simp [okR], by simp [DL.wt], by simp [PyData.depth]⟩
theorem Rw.int {k : Int} (h : k.natAbs ≤ 100) : Rw (.int k) := ⟨⟨rfl, fun y hy => by cases hy⟩, by simp only [okR, decide_eq_true_eq]; omega, by simp [DL.wt], by simp [PyData.depth]⟩
theorem Rw.lst {r : List Int} (h : ∀ k ∈ r, 0 ≤ k ∧ k ≤ 7) (hl : r.length ≤ 4) : Rw (.list (r.map .int)) := by
  have c := Cw.row h hl
  have e : okRL (r.map PyData.int) = true := by have := c.ok; unfold tI at this; simpa only [okR] using this
  have w : wtL (r.map PyData.int) + 3 ≤ 100 := by have := c.wt; unfold tI at this; simpa only [DL.wt] using this
  refine ⟨⟨rfl, fun y hy => by cases hy⟩, by simp only [okR]; exact e, by simp only [DL.wt]; omega, ?_⟩
  exact Nat.le_trans (depth_list (n := 0) fun x hx => by
      obtain ⟨k, hk, rfl⟩ := List.mem_map.mp hx
      simp [PyData.depth]) (by omega)
theorem okP.tup {xs : List PyData} (h : ∀ x ∈ xs, Rw x) (hl : xs.length ≤ 60) : okP (.tuple xs) := by
  refine ⟨⟨rfl, fun x hx => (h x hx).r⟩, reprOk_of (by simp only [okR]; rw [okRL_all]; exact fun y hy => (h y hy).ok) ?_ (Nat.le_trans (depth_tuple fun y hy => (h y hy).d) (by omega))⟩
  simp only [DL.wt]
  have := wtL_le (w := 5000) fun y hy => (h y hy).wt
  omega
theorem okP.lst {xs : List PyData} (h : ∀ x ∈ xs, Rw x) (hl : xs.length ≤ 60) : okP (.list xs) := by
  refine ⟨⟨rfl, fun x hx => by cases hx⟩, reprOk_of (by simp only [okR]; rw [okRL_all]; exact fun y hy => (h y hy).ok) ?_ (Nat.le_trans (depth_list fun y hy => (h y hy).d) (by omega))⟩
  simp only [DL.wt]
  have := wtL_le (w := 5000) fun y hy => (h y hy).wt
  omega
variable {A B : List (List Int)} {m n : Nat}
theorem Pc.rw (v : Pc A m n 4) (h2 : n ≤ 4) : ∀ x ∈ A.map tI, Rw x := fun x hx => by
  obtain ⟨r, hr, rfl⟩ := List.mem_map.mp hx
  exact Rw.row (fun k hk => by have := v.c r hr k hk; omega) (by rw [v.w r hr]; omega)
theorem Pc.cw (v : Pc A m n 4) (h2 : n ≤ 4) : ∀ x ∈ A.map tI, Cw x := fun x hx => by
  obtain ⟨r, hr, rfl⟩ := List.mem_map.mp hx
  exact Cw.row (fun k hk => by have := v.c r hr k hk; omega) (by rw [v.w r hr]; omega)
theorem add_t1 {l : List Int} {y : PyData} (h : l.length ≤ 1000) : dAdd (tI l) (.tuple [y]) = some (.tuple (l.map .int ++ [y])) := by
  show dAdd (.tuple (l.map .int)) (.tuple [y]) = _
  rw [dAdd_t, if_pos (by simp; omega)]
theorem add_t2 {xs : List PyData} {l : List Int} (h : l.length ≤ 1000) (h' : xs.length ≤ 1000) : dAdd (.tuple xs) (tI l) = some (.tuple (xs ++ l.map .int)) := by
  show dAdd (.tuple xs) (.tuple (l.map .int)) = _
  rw [dAdd_t, if_pos (by simp; omega)]
theorem add_T1 {l : List (List Int)} {y : PyData} (h : l.length ≤ 1000) : dAdd (tT l) (.tuple [y]) = some (.tuple (l.map tI ++ [y])) := by
  show dAdd (.tuple (l.map tI)) (.tuple [y]) = _
  rw [dAdd_t, if_pos (by simp; omega)]
theorem add_T2 {xs : List PyData} {l : List (List Int)} (h : l.length ≤ 1000) (h' : xs.length ≤ 1000) : dAdd (.tuple xs) (tT l) = some (.tuple (xs ++ l.map tI)) := by
  show dAdd (.tuple xs) (.tuple (l.map tI)) = _
  rw [dAdd_t, if_pos (by simp; omega)]
def rep12 (xs : List PyData) : List PyData := (List.replicate 12 xs).flatten
theorem mul_I {l : List Int} (h : l.length ≤ 1000) : dMulX (tI l) (.int 12) = some (.tuple (rep12 (l.map PyData.int))) := by
  show dMulX (.tuple (l.map .int)) (.int 12) = _
  rw [dMulX_t, if_pos ⟨by decide, by decide, by simpa using h⟩]
  rfl
theorem mul_T {l : List (List Int)} (h : l.length ≤ 1000) : dMulX (tT l) (.int 12) = some (.tuple (rep12 (l.map tI))) := by
  show dMulX (.tuple (l.map tI)) (.int 12) = _
  rw [dMulX_t, if_pos ⟨by decide, by decide, by simpa using h⟩]
  rfl
theorem mem_rep {xs : List PyData} {x : PyData} (h : x ∈ rep12 xs) : x ∈ xs := by
  obtain ⟨l, h1, h2⟩ := List.mem_flatten.mp h
  rw [List.mem_replicate] at h1
  rw [← h1.2]; exact h2
theorem len_rep (xs : List PyData) : (rep12 xs).length = 12 * xs.length := by
  unfold rep12
  rw [List.length_flatten, List.map_replicate, List.sum_replicate_nat]
theorem okP_simple {v : PyData} (h1 : okT v = true) (h2 : reprOk v = true) (h3 : cells v = []) : okP v := ⟨⟨h1, fun x hx => by rw [h3] at hx; cases hx⟩, h2⟩
theorem w_pictures {a b : Int} {Q : SD × List SD → Prop} (hQ : ∀ xs a' b', (∀ v ∈ xs, okP v) → xs.length ≤ 100 → Q (.own false xs, [P a' b'])) : OV (m__law_pictures [P a b]) Q := by
  rw [m__law_pictures, OV_defn]
  simp
  apply w_both (by omega) (by omega) (by omega) (by omega)
  intro A B m n a b pA pB m1 m2 n1 n2
  have lA := pA.l
  have lB := pB.l
  simp [lA]
  apply w_draw (by omega) (by omega)
  intro i a b i1 i2
  have hil : i < A.length := by omega
  have nA := atI_nth i1 hil
  have mA := nth_mem i1 hil
  obtain ⟨R, hR⟩ : ∃ R, R = nth A i := ⟨_, rfl⟩
  rw [← hR] at nA mA
  obtain ⟨R0, hR0⟩ : ∃ R0, L2.atI A 0 = some R0 ∧ R0 ∈ A := ⟨_, atI_nth (by omega) (by omega), nth_mem (by omega) (by omega)⟩
  obtain ⟨hA0, mA0⟩ := hR0
  have lR := pA.w R mA
  have lR0 := pA.w R0 mA0
  simp [hA0, lR0]
  apply w_draw (by omega) (by omega)
  intro j a b j1 j2
  have cR := pA.c R mA
  have cR0 := pA.c R0 mA0
  simp [hA0, mul_T (show A.length ≤ 1000 by omega), mul_I (show R0.length ≤ 1000 by omega), -w_forCons]
  have rA := pA.rw (by omega)
  have rB := pB.rw (by omega)
  have r12 : okP (.tuple (rep12 (A.map tI))) := okP.tup (fun x hx => rA x (mem_rep hx)) (by rw [len_rep]; simp; omega)
  have rr0 : Rw (.tuple (rep12 (R0.map PyData.int))) := Rw.tup (fun x hx => by
    obtain ⟨k, hk, rfl⟩ := List.mem_map.mp (mem_rep hx)
    have := cR0 k hk
    exact Cw.int (by omega) (by omega)) (by rw [len_rep]; simp; omega)
  obtain ⟨L, hL⟩ : ∃ L, L = [tT A, tT B, PyData.list (A.map tI), .tuple [], .list [], .none, .int 0, .str "", .dict [], .tuple [.tuple []], .tuple [tT A], tI R0, .tuple (rep12 (A.map tI)), .tuple [.tuple (rep12 (R0.map PyData.int))]] := ⟨_, rfl⟩
  have base : ∀ v ∈ L, okP v := by
    intro v hv
    rw [hL] at hv
    simp only [List.mem_cons, List.not_mem_nil, or_false] at hv
    rcases hv with rfl | rfl | rfl | rfl | rfl | rfl | rfl | rfl | rfl | rfl | rfl | rfl | rfl | rfl
    · exact okP.tup rA (by simp; omega)
    · exact okP.tup rB (by simp; omega)
    · exact okP.lst rA (by simp; omega)
    · exact okP.tup (by simp) (by simp)
    · exact okP.lst (by simp) (by simp)
    · exact okP_simple rfl (by decide +kernel) rfl
    · exact okP_simple rfl (by decide +kernel) rfl
    · exact okP_simple rfl (by decide +kernel) rfl
    · exact okP_simple rfl (by decide +kernel) rfl
    · exact okP.tup (fun x hx => by rw [List.mem_singleton] at hx; subst hx; exact Rw.tup (by simp) (by simp)) (by simp)
    · exact okP.tup (fun x hx => by rw [List.mem_singleton] at hx; subst hx; exact Rw.tup (pA.cw (by omega)) (by simp; omega)) (by simp)
    · exact okP.tup (fun x hx => by
        obtain ⟨k, hk, rfl⟩ := List.mem_map.mp hx
        have := cR0 k hk
        exact Rw.int (by omega)) (by simp; omega)
    · exact r12
    · exact okP.tup (fun x hx => by rw [List.mem_singleton] at hx; subst hx; exact rr0) (by simp)
  have lL : L.length = 14 := by rw [hL]; rfl
  rw [← hL]
  clear hL
  have odds : ∀ x ∈ [PyData.none, .bool true, .int (-1), .int 8, .int 7, .str "1", .tuple [.int 1]], Cw x := by
    intro x hx
    simp only [List.mem_cons, List.not_mem_nil, or_false] at hx
    rcases hx with rfl | rfl | rfl | rfl | rfl | rfl | rfl
    · exact Cw.non
    · exact Cw.tru
    · exact Cw.int (by omega) (by omega)
    · exact Cw.int (by omega) (by omega)
    · exact Cw.int (by omega) (by omega)
    · exact Cw.one
    · exact Cw.tup1
  have put : ∀ x, Rw x → okP (.tuple ((A.take i.toNat).map tI ++ [x] ++ (A.drop (i.toNat + 1)).map tI)) := fun x hx => by
    refine okP.tup (fun y hy => ?_) (by simp; omega)
    rcases List.mem_append.mp hy with hy | hy
    · rcases List.mem_append.mp hy with hy | hy
      · obtain ⟨r, hr, rfl⟩ := List.mem_map.mp hy
        exact rA _ (List.mem_map.mpr ⟨r, List.mem_of_mem_take hr, rfl⟩)
      · rw [List.mem_singleton.mp hy]; exact hx
    · obtain ⟨r, hr, rfl⟩ := List.mem_map.mp hy
      exact rA _ (List.mem_map.mpr ⟨r, List.mem_of_mem_drop hr, rfl⟩)
  have cI : ∀ k ∈ R, Cw (.int k) := fun k hk => by have := cR k hk; exact Cw.int (by omega) (by omega)
  have ei : (i + 1).toNat = i.toNat + 1 := by omega
  apply WFor.invA (fun pre S => ∃ a b t6 t7 found, S = [P a b, .d (tT A), .d (tT B), .d (.int i), .d (.int j), .own false found, t6, t7] ∧ (∀ v ∈ found, okP v) ∧ found.length = 14 + pre.length) ⟨a, b, _, _, L, rfl, base, lL⟩
  · rintro pre x post S he ⟨a, b, t6, t7, found, rfl, hf, fl⟩
    have hx := odds x (by rw [he]; simp)
    have hpl : pre.length ≤ 6 := by have := congrArg List.length he; simp at this; omega
    have hy : Rw (.tuple ((R.take j.toNat).map .int ++ [x] ++ (R.drop (j + 1).toNat).map .int)) := Rw.tup (fun y hy => by
      rcases List.mem_append.mp hy with hy | hy
      · rcases List.mem_append.mp hy with hy | hy
        · obtain ⟨k, hk, rfl⟩ := List.mem_map.mp hy
          exact cI k (List.mem_of_mem_take hk)
        · rw [List.mem_singleton.mp hy]; exact hx
      · obtain ⟨k, hk, rfl⟩ := List.mem_map.mp hy
        exact cI k (List.mem_of_mem_drop hk)) (by simp; omega)
    have := put _ hy
    obtain ⟨Y, hY⟩ : ∃ Y, Y = PyData.tuple ((R.take j.toNat).map .int ++ [x] ++ (R.drop (j + 1).toNat).map .int) := ⟨_, rfl⟩
    have s1 : dAdd (tI (R.take j.toNat)) (.tuple [x]) = some (.tuple ((R.take j.toNat).map .int ++ [x])) := add_t1 (by simp; omega)
    have s2 : dAdd (.tuple ((R.take j.toNat).map .int ++ [x])) (tI (R.drop (j + 1).toNat)) = some Y := by rw [hY]; exact add_t2 (by simp; omega) (by simp; omega)
    rw [← hY] at this
    have s3 : dAdd (tT (A.take i.toNat)) (.tuple [Y]) = some (.tuple ((A.take i.toNat).map tI ++ [Y])) := add_T1 (by simp; omega)
    have s4 : dAdd (.tuple ((A.take i.toNat).map tI ++ [Y])) (tT (A.drop (i + 1).toNat)) = some (.tuple ((A.take i.toNat).map tI ++ [Y] ++ (A.drop (i.toNat + 1)).map tI)) := by rw [ei]; exact add_T2 (by simp; omega) (by simp; omega)
    simp [nA, cut_tI_to _ j1, cut_tI_from _ (show 0 ≤ j + 1 by omega), cut_tT_to _ i1, cut_tT_from _ (show 0 ≤ i + 1 by omega), s1, s2, s3, s4, show found.length < 100000 by omega, -List.map_take, -List.map_drop, -List.append_assoc]
    refine ⟨_, _, _, _, _, rfl, fun v hv => ?_, by simp; omega⟩
    rcases List.mem_append.mp hv with hv | hv
    · exact hf v hv
    · rw [List.mem_singleton.mp hv]; exact this
  · rintro S ⟨a, b, t6, t7, found, rfl, hf, fl⟩
    have fl : found.length = 21 := fl
    have u1 : dAdd (tI R) (.tuple [.int 1]) = some (.tuple (R.map .int ++ [.int 1])) := add_t1 (by omega)
    simp [nA, cut_tI_from _ (show (0 : Int) ≤ 1 by omega), u1, -w_forCons]
    obtain ⟨L2, hL2⟩ : ∃ L2, L2 = [PyData.tuple [], tI R.tail, .tuple (R.map .int ++ [.int 1]), .list (R.map .int), .none] := ⟨_, rfl⟩
    have rows : ∀ x ∈ L2, Rw x := by
      intro x hx
      rw [hL2] at hx
      simp only [List.mem_cons, List.not_mem_nil, or_false] at hx
      rcases hx with rfl | rfl | rfl | rfl | rfl
      · exact Rw.tup (by simp) (by simp)
      · exact Rw.row (fun k hk => by have := cR k (List.mem_of_mem_tail hk); omega) (by simp; omega)
      · refine Rw.tup (fun y hy => ?_) (by simp; omega)
        rcases List.mem_append.mp hy with hy | hy
        · obtain ⟨k, hk, rfl⟩ := List.mem_map.mp hy
          exact cI k hk
        · rw [List.mem_singleton.mp hy]; exact Cw.int (by omega) (by omega)
      · exact Rw.lst (fun k hk => by have := cR k hk; omega) (by omega)
      · exact Rw.non
    have l2 : L2.length = 5 := by rw [hL2]; rfl
    rw [← hL2]
    clear hL2
    apply WFor.invA (fun pre S => ∃ t7 found, S = [P a b, .d (tT A), .d (tT B), .d (.int i), .d (.int j), .own false found, t6, t7] ∧ (∀ v ∈ found, okP v) ∧ found.length = 21 + pre.length) ⟨t7, found, rfl, hf, fl⟩
    · rintro pre x post S he ⟨t7, found, rfl, hf, fl⟩
      have hx := rows x (by rw [he]; simp)
      have hpl : pre.length ≤ 4 := by have := congrArg List.length he; simp at this; omega
      have := put _ hx
      have s3 : dAdd (tT (A.take i.toNat)) (.tuple [x]) = some (.tuple ((A.take i.toNat).map tI ++ [x])) := add_T1 (by simp; omega)
      have s4 : dAdd (.tuple ((A.take i.toNat).map tI ++ [x])) (tT (A.drop (i + 1).toNat)) = some (.tuple ((A.take i.toNat).map tI ++ [x] ++ (A.drop (i.toNat + 1)).map tI)) := by rw [ei]; exact add_T2 (by simp; omega) (by simp; omega)
      simp [cut_tT_to _ i1, cut_tT_from _ (show 0 ≤ i + 1 by omega), s3, s4, show found.length < 100000 by omega, -List.map_take, -List.map_drop, -List.append_assoc]
      refine ⟨_, _, rfl, fun v hv => ?_, by simp; omega⟩
      rcases List.mem_append.mp hv with hv | hv
      · exact hf v hv
      · rw [List.mem_singleton.mp hv]; exact this
    · rintro S ⟨t7, found, rfl, hf, fl⟩
      simp
      exact hQ found _ _ hf (by omega)
end PK81

set_option Elab.async false
set_option linter.all false
set_option maxRecDepth 100000
set_option maxHeartbeats 4000000
namespace PK81
open PySem DL
variable {A B : List (List Int)} {m n : Nat} {c w p : Int}
def cl (A : List (List Int)) (w p : Int) : Int := nth (nth A w) p
def oD : Option Int → PyData
  | none => .none
  | some x => .int x
def oth (f b : Int) : Option Int → Option Int
  | none => none
  | some c => if c = f then some b else if c = b then some f else none
theorem Pc.at (v : Pc A m n 4) (w1 : 0 ≤ w) (w2 : w < m) (p1 : 0 ≤ p) (p2 : p < n) : ∃ r, L2.atI A w = some r ∧ L2.atI r p = some (cl A w p) := by
  have l := v.l
  have h : w < A.length := by omega
  refine ⟨_, atI_nth w1 h, atI_nth p1 ?_⟩
  rw [v.w _ (nth_mem w1 h)]; exact p2
@[simp] theorem e_both_at (v : Pc A m n 4) (u : Pc B m n 4) (w1 : 0 ≤ w) (w2 : w < m) (p1 : 0 ≤ p) (p2 : p < n) : m_both_at [.d (tT A), .d (tT B), .d (.int w), .d (.int p)] = some (.d (tI [cl A w p, cl B w p]), [.d (tT A), .d (tT B), .d (.int w), .d (.int p)]) := by
  obtain ⟨r, h1, h2⟩ := v.at w1 w2 p1 p2
  obtain ⟨s, h3, h4⟩ := u.at w1 w2 p1 p2
  apply OV.eq
  rw [m_both_at, OV_defn]
  simp [h1, h2, h3, h4]
  rfl
@[simp] theorem e_other_of (f b : Int) (c : Option Int) : m_other_of [.d (tI [f, b]), .d (oD c)] = some (.d (oD (oth f b c)), [.d (tI [f, b]), .d (oD c)]) := by
  apply OV.eq
  rw [m_other_of, OV_defn]
  cases c with
  | none => simp [oD, oth]
  | some c =>
    have i0 : L2.atI [f, b] 0 = some f := by simp [atI_of]
    have i1 : L2.atI [f, b] 1 = some b := by simp [atI_of]
    by_cases h1 : c = f
    · simp [oD, oth, h1, i0, i1]
    · by_cases h2 : c = b
      · have h3 : ¬ b = f := fun h => h1 (h2.trans h)
        simp [oD, oth, h2, h3, i0, i1]
      · simp [oD, oth, h1, h2]
def own (A B : List (List Int)) (c w : Int) : Option Int := oth (cl A w 0) (cl B w 0) (some c)
def late (A B : List (List Int)) (c p : Int) : Option Int := oth (cl A 0 p) (cl B 0 p) (own A B c 0)
def lt (A B : List (List Int)) (c p : Int) : Option Int := if p = 0 then some c else late A B c p
def toldV (A B : List (List Int)) (m n : Nat) (c : Int) : PyData := .tuple [.tuple ((upto n).map fun p => oD (lt A B c p)), .tuple ((upto m).map fun w => oD (own A B c w))]
theorem upto_one {n : Nat} (h : 1 ≤ n) : upto n = 0 :: (List.range (n - 1)).map (fun i => (1 : Int) + (i : Nat)) := by
  obtain ⟨k, rfl⟩ : ∃ k, n = k + 1 := ⟨n - 1, by omega⟩
  simp only [upto, Nat.add_sub_cancel, List.range_succ_eq_map, List.map_cons, List.map_map]
  congr 1
  apply List.map_congr_left
  intro i _
  show ((i + 1 : Nat) : Int) = 1 + i
  omega
theorem rngI_1 {n : Nat} (h : 1 ≤ n) (h2 : n ≤ 1000) : rngI [.int 1, .int n] = some (((List.range (n - 1)).map fun i => (1 : Int) + (i : Nat)).map .int) := by
  simp only [rngI]
  rw [if_pos ⟨by omega, by omega, by omega, by omega⟩]
  have e : ((n : Int) - 1).toNat = n - 1 := by omega
  rw [e]
  unfold rngD
  rw [List.map_map]
  rfl
@[simp] theorem e_told_by (v : Pc A m n 4) (u : Pc B m n 4) (m1 : 1 ≤ m) (m2 : m ≤ 12) (n1 : 1 ≤ n) (n2 : n ≤ 12) : m_told_by [.d (tT A), .d (tT B), .d (.int c)] = some (.d (toldV A B m n c), [.d (tT A), .d (tT B), .d (.int c)]) := by
  have l := v.l
  obtain ⟨R0, hR0⟩ : ∃ R0, L2.atI A 0 = some R0 := ⟨_, atI_nth (by omega) (by omega)⟩
  have lR0 : R0.length = n := by
    have h : L2.atI A 0 = some (nth A 0) := atI_nth (by omega) (by omega)
    rw [h] at hR0; cases hR0
    exact v.w _ (nth_mem (by omega) (by omega))
  apply OV.eq
  rw [m_told_by, OV_defn]
  simp [l, rngI_nat m (show m ≤ 100000 by omega)]
  refine ⟨by omega, ?_⟩
  apply WLc.mapOf PyData.int (fun w => oD (own A B c w)) (fun w hw => by
    have hw := mem_upto.mp hw
    have e := e_other_of (cl A w 0) (cl B w 0) (some c)
    simp only [oD] at e
    simp [e_both_at v u hw.1 hw.2 (show (0 : Int) ≤ 0 by omega) (show (0 : Int) < n by omega), e, own, oD])
  have i0 : L2.atI (upto m) 0 = some 0 := by rw [atI_of (by omega)]; exact upto_get (by omega)
  simp [hR0, lR0, rngI_1 n1 (show n ≤ 1000 by omega), -List.map_map]
  refine ⟨by omega, ?_⟩
  apply WLc.mapOf PyData.int (fun p => oD (late A B c p)) (fun p hp => by
    obtain ⟨i, hi, rfl⟩ := List.mem_map.mp hp
    rw [List.mem_range] at hi
    have e := e_other_of (cl A 0 (1 + (i : Nat))) (cl B 0 (1 + (i : Nat))) (own A B c 0)
    simp [e_both_at v u (show (0 : Int) ≤ 0 by omega) (show (0 : Int) < m by omega) (show (0 : Int) ≤ 1 + (i : Nat) by omega) (show 1 + ((i : Nat) : Int) < n by omega), i0, e, late])
  have e2 : PyData.int c :: (((List.range (n - 1)).map fun i => (1 : Int) + (i : Nat)).map fun p => oD (late A B c p)) = (upto n).map fun p => oD (lt A B c p) := by
    rw [upto_one n1, List.map_cons, List.map_map, List.map_map]
    congr 1
    apply List.map_congr_left
    intro i _
    have : ¬ (1 + ((i : Nat) : Int)) = 0 := by omega
    show oD _ = oD (lt A B c (1 + (i : Nat)))
    unfold lt
    rw [if_neg this]
  simp [e2, toldV, -List.map_map, show 1 + (n - 1) ≤ 100000 by omega]
def wrong (A B : List (List Int)) (c w p : Int) : Bool := if p = 0 then (own A B c w).isNone else if w = 0 then (late A B c p).isNone else match late A B c p, own A B c w with
  | some x, some y => !((decide (cl A w p = x) && decide (cl B w p = y)) || (decide (cl A w p = y) && decide (cl B w p = x)))
  | _, _ => false
@[simp] theorem none_oD (o : Option Int) : isNoneD (oD o) = o.isNone := by cases o <;> rfl
@[simp] theorem e_are_both (f b x y : Int) : m_are_both [.d (tI [f, b]), .d (.int x), .d (.int y)] = some (.d (.bool ((decide (f = x) && decide (b = y)) || (decide (f = y) && decide (b = x)))), [.d (tI [f, b]), .d (.int x), .d (.int y)]) := by
  have e : dIn (tI [f, b]) (.tuple [.tuple [.int x, .int y], .tuple [.int y, .int x]]) = some (.bool (decide ([f, b] ∈ [[x, y], [y, x]]))) := in_tT [f, b] [[x, y], [y, x]]
  apply OV.eq
  rw [m_are_both, OV_defn]
  simp [e]
theorem e_is_wrong_at (v : Pc A m n 4) (u : Pc B m n 4) (w1 : 0 ≤ w) (w2 : w < m) (p1 : 0 ≤ p) (p2 : p < n) : m_is_wrong_at [.d (tT A), .d (tT B), .d (toldV A B m n c), .d (.int w), .d (.int p)] = some (.d (.bool (wrong A B c w p)), [.d (tT A), .d (tT B), .d (toldV A B m n c), .d (.int w), .d (.int p)]) := by
  have t0 : dIx (toldV A B m n c) (.int 0) = some (.tuple ((upto n).map fun p => oD (lt A B c p))) := by unfold toldV; show L2.atI _ 0 = _; rw [atI_of (by omega)]; rfl
  have t1 : dIx (toldV A B m n c) (.int 1) = some (.tuple ((upto m).map fun w => oD (own A B c w))) := by unfold toldV; show L2.atI _ 1 = _; rw [atI_of (by omega)]; rfl
  have un : ∀ {k : Nat} {i : Int}, 0 ≤ i → i < k → L2.atI (upto k) i = some i := fun {k i} h1 h2 => by
    rw [atI_of h1, upto_get (by omega)]
    congr 1; omega
  have q1 := un w1 w2
  have q2 := un p1 p2
  apply OV.eq
  rw [m_is_wrong_at, OV_defn]
  by_cases h1 : p = 0
  · simp [h1, t1, q1, wrong]
  · by_cases h2 : w = 0
    · subst h2
      simp [h1, t0, q2, wrong, lt]
    · simp [h1, h2, t0, t1, q1, q2, lt]
      cases h3 : late A B c p with
      | none => simp [wrong, h1, h2, h3]
      | some x =>
        cases h4 : own A B c w with
        | none => simp [wrong, h1, h2, h3, h4]
        | some y => simp [wrong, h1, h2, h3, h4, e_both_at v u w1 w2 p1 p2, oD, t0, t1, q1, q2, lt]
end PK81

set_option Elab.async false
set_option linter.all false
set_option maxRecDepth 100000
set_option maxHeartbeats 4000000
namespace PK81
open PySem DL
variable {A B : List (List Int)} {m n : Nat} {c w p : Int}
theorem eq_oD (c : Option Int) (f : Int) : dEq (oD c) (.int f) = some (.bool (decide (c = some f))) := by
  cases c with
  | none =>
    show dEq .none (.int f) = some (.bool false)
    have h1 : fitN 60 .none = true := by decide +kernel
    have h2 : fitN 60 (.int f) = true := fit_int 60 f
    unfold dEq strEq
    simp [h1, h2, PyData.eqv]
  | some c => simp [oD]
@[simp] theorem e_law_other (f b : Int) (c : Option Int) : m__law_other [.d (.int f), .d (.int b), .d (oD c)] = some (.d (oD (oth f b c)), [.d (.int f), .d (.int b), .d (oD c)]) := by
  apply OV.eq
  rw [m__law_other, OV_defn]
  cases c with
  | none => simp [eq_oD, oth]; simp [oD]
  | some c =>
    by_cases h1 : c = f
    · simp [eq_oD, oth, h1]; simp [oD]
    · by_cases h2 : c = b
      · have h3 : ¬ b = f := fun h => h1 (h2.trans h)
        simp [eq_oD, oth, h2, h3]; simp [oD]
      · simp [eq_oD, oth, h1, h2]; simp [oD]
theorem sort2 (a b : Int) : sortI [a, b] = if a ≤ b then [a, b] else [b, a] := by
  have h : (if a ≤ b then [a, b] else [b, a]).Pairwise (· ≤ ·) := by
    split <;> simp <;> omega
  refine sorted_unique ((sortI_perm _).trans ?_) (sortI_sorted _) h
  split
  · exact .refl _
  · exact List.Perm.swap _ _ _
theorem sort2_eq (x y f b : Int) : decide (sortI [y, x] = sortI [f, b]) = ((decide (f = x) && decide (b = y)) || (decide (f = y) && decide (b = x))) := by
  rw [sort2, sort2, Bool.eq_iff_iff]
  simp only [decide_eq_true_eq, Bool.or_eq_true, Bool.and_eq_true]
  split <;> split <;> simp only [List.cons.injEq, and_true] <;> omega
theorem e_law_is_wrong (v : Pc A m n 4) (u : Pc B m n 4) (m1 : 1 ≤ m) (n1 : 1 ≤ n) (w1 : 0 ≤ w) (w2 : w < m) (p1 : 0 ≤ p) (p2 : p < n) : m__law_is_wrong [.d (tT A), .d (tT B), .d (.int c), .d (.tuple [.int w, .int p])] = some (.d (.bool (wrong A B c w p)), [.d (tT A), .d (tT B), .d (.int c), .d (.tuple [.int w, .int p])]) := by
  obtain ⟨r, a1, a2⟩ := v.at (w := 0) (p := 0) (by omega) (by omega) (by omega) (by omega)
  obtain ⟨s, b1, b2⟩ := u.at (w := 0) (p := 0) (by omega) (by omega) (by omega) (by omega)
  obtain ⟨r1, c1, c2⟩ := v.at (w := w) (p := 0) (by omega) (by omega) (by omega) (by omega)
  obtain ⟨s1, d1, d2⟩ := u.at (w := w) (p := 0) (by omega) (by omega) (by omega) (by omega)
  obtain ⟨r2, e1, e2⟩ := v.at (w := 0) (p := p) (by omega) (by omega) (by omega) (by omega)
  obtain ⟨s2, f1, f2⟩ := u.at (w := 0) (p := p) (by omega) (by omega) (by omega) (by omega)
  obtain ⟨r3, g1, g2⟩ := v.at w1 w2 p1 p2
  obtain ⟨s3, h1, h2⟩ := u.at w1 w2 p1 p2
  rw [a1] at e1; cases e1
  rw [b1] at f1; cases f1
  rw [c1] at g1; cases g1
  rw [d1] at h1; cases h1
  have o1 : m__law_other [.d (.int (cl A 0 0)), .d (.int (cl B 0 0)), .d (.int c)] = some (.d (oD (own A B c 0)), [.d (.int (cl A 0 0)), .d (.int (cl B 0 0)), .d (.int c)]) := e_law_other _ _ (some c)
  have o2 : m__law_other [.d (.int (cl A w 0)), .d (.int (cl B w 0)), .d (.int c)] = some (.d (oD (own A B c w)), [.d (.int (cl A w 0)), .d (.int (cl B w 0)), .d (.int c)]) := e_law_other _ _ (some c)
  have o3 : oth (cl A 0 p) (cl B 0 p) (own A B c 0) = late A B c p := rfl
  apply OV.eq
  rw [m__law_is_wrong, OV_defn]
  simp [a1, a2, b1, b2, o1, c1, c2, d1, d2, o2]
  by_cases q1 : p = 0
  · simp [q1, wrong]
  · simp [q1, a1, b1, e2, f2, o3]
    by_cases q2 : w = 0
    · subst q2
      simp [q1, wrong]
    · simp [q2]
      cases h3 : late A B c p with
      | none => cases own A B c w <;> simp [wrong, q1, q2, h3]
      | some x =>
        cases h4 : own A B c w with
        | none => simp [wrong, q1, q2, h3, h4]
        | some y =>
          have ee := sort2_eq x y (cl A w p) (cl B w p)
          have k1 : ∀ i j : Int, dSortedL [.list [.int i, .int j]] = some ((sortI [i, j]).map .int) := fun i j => sort_lI [i, j]
          have k2 : dNe (.list ((sortI [y, x]).map .int)) (.list ((sortI [cl A w p, cl B w p]).map .int)) = some (.bool (!decide (sortI [y, x] = sortI [cl A w p, cl B w p]))) := dNe_enc ((enc_int 0).lst) (by decide) _ _
          rw [ee] at k2
          simp [k1, k2, wrong, q1, q2, h3, h4, c1, d1, g2, h2, oD]
end PK81

set_option Elab.async false
set_option linter.all false
set_option maxRecDepth 100000
set_option maxHeartbeats 4000000
namespace PK81
open PySem DL
variable {A B : List (List Int)} {m n : Nat} {c w p : Int}
def okCell (x : PyData) : Prop := okT x = true ∧ ∀ u ∈ cells x, okT u = true
def isCell (m n : Nat) : PyData → Bool
  | .tuple [u, v] => isIn 0 ((m : Int) - 1) u && isIn 0 ((n : Int) - 1) v
  | _ => false
theorem isCell_some {x : PyData} (h : isCell m n x = true) : ∃ w p : Int, x = .tuple [.int w, .int p] ∧ 0 ≤ w ∧ w < m ∧ 0 ≤ p ∧ p < n := by
  unfold isCell at h
  split at h
  · rw [Bool.and_eq_true] at h
    obtain ⟨w, rfl, h1, h2⟩ := isIn_some h.1
    obtain ⟨p, rfl, h3, h4⟩ := isIn_some h.2
    exact ⟨w, p, rfl, h1, by omega, h3, by omega⟩
  · cases h
theorem isCell_no {x : PyData} (h : isTup 2 x = false) : isCell m n x = false := by
  cases x with
  | tuple xs =>
    match xs, h with
    | [], _ => rfl
    | [a], _ => rfl
    | [a, b], h => simp [isTup] at h
    | a :: b :: c :: r, _ => rfl
  | _ => rfl
theorem two_of {x : PyData} (h : isTup 2 x = true) : ∃ u v, x = .tuple [u, v] := by
  cases x with
  | tuple xs =>
    match xs, h with
    | [], h => simp [isTup] at h
    | [a], h => simp [isTup] at h
    | [a, b], _ => exact ⟨a, b, rfl⟩
    | a :: b :: c :: r, h => simp [isTup] at h; omega
  | _ => cases h
theorem all2 (x y : Bool) : dAll [.list [.bool x, .bool y]] = some (.bool (x && y)) := by
  have := all_map (fun b : Bool => b) [x, y]
  simpa using this
theorem Pc.row0 (v : Pc A m n 4) (m1 : 1 ≤ m) : ∃ r, L2.atI A 0 = some r ∧ r.length = n := by
  have l := v.l
  exact ⟨_, atI_nth (by omega) (by omega), v.w _ (nth_mem (by omega) (by omega))⟩
theorem e_is_cell_of (v : Pc A m n 4) (m1 : 1 ≤ m) {x : PyData} (h : okCell x) : m_is_cell_of [.d (.tuple [.str "front", tT A]), .d x] = some (.d (.bool (isCell m n x)), [.d (.tuple [.str "front", tT A]), .d x]) := by
  obtain ⟨r, h1, h2⟩ := v.row0 m1
  have l := v.l
  have t1 : ∀ s : PyData, L2.atI [s, tT A] 1 = some (tT A) := fun s => by rw [atI_of (by omega)]; rfl
  have e1 : m_many_wefts [.d (.tuple [.str "front", tT A])] = some (.d (.int m), [.d (.tuple [.str "front", tT A])]) := by
    apply OV.eq
    rw [m_many_wefts, OV_defn]
    simp [t1, l]
  have e2 : m_many_warps [.d (.tuple [.str "front", tT A])] = some (.d (.int n), [.d (.tuple [.str "front", tT A])]) := by
    apply OV.eq
    rw [m_many_warps, OV_defn]
    simp [t1, h1, h2]
  apply OV.eq
  rw [m_is_cell_of, OV_defn]
  cases q : isTup 2 x with
  | false => simp [h.1, q, isCell_no q]
  | true =>
    obtain ⟨a, b, rfl⟩ := two_of q
    have i0 : L2.atI [a, b] 0 = some a := by rw [atI_of (by omega)]; rfl
    have i1 : L2.atI [a, b] 1 = some b := by rw [atI_of (by omega)]; rfl
    have ha : okT a = true := h.2 a (by simp [cells])
    have hb : okT b = true := h.2 b (by simp [cells])
    cases q1 : isIn 0 ((m : Int) - 1) a with
    | false => simp [q, i0, e1, ha, q1, isCell]
    | true => simp [q, i0, i1, e1, e2, ha, hb, q1, isCell]
theorem e_law_is_cell (v : Pc A m n 4) (m1 : 1 ≤ m) {x : PyData} (h : okCell x) : m__law_is_cell [.d (tT A), .d x] = some (.d (.bool (isCell m n x)), [.d (tT A), .d x]) := by
  obtain ⟨r, h1, h2⟩ := v.row0 m1
  have l := v.l
  apply OV.eq
  rw [m__law_is_cell, OV_defn]
  cases q : isTup 2 x with
  | false =>
    rw [isCell_no q]
    cases x with
    | tuple xs =>
      have : ¬ (xs.length : Int) = 2 := by simpa [isTup] using q
      simp [tgIs, this]
    | dict kvs => rw [okT_dict h.1]; simp [tgIs]
    | _ => simp [tgIs]
  | true =>
    obtain ⟨a, b, rfl⟩ := two_of q
    have i0 : L2.atI [a, b] 0 = some a := by rw [atI_of (by omega)]; rfl
    have i1 : L2.atI [a, b] 1 = some b := by rw [atI_of (by omega)]; rfl
    have ha : okT a = true := h.2 a (by simp [cells])
    have hb : okT b = true := h.2 b (by simp [cells])
    have key : ∀ y : PyData, okT y = true → ∃ k1 k2, isTy .int y = some k1 ∧ isTy .bool y = some k2 ∧ (k1 && !k2) = isInt y := fun y hy => by
      cases y with
      | dict kvs => rw [okT_dict hy]; exact ⟨_, _, rfl, rfl, rfl⟩
      | _ => exact ⟨_, _, rfl, rfl, rfl⟩
    cases hi : isInt a && isInt b with
    | false =>
      have hn : isCell m n (.tuple [a, b]) = false := by
        cases z : isCell m n (.tuple [a, b]) with
        | false => rfl
        | true =>
          obtain ⟨w, p, e, _⟩ := isCell_some z
          cases e
          cases hi
      rw [hn]
      obtain ⟨p1, p2, p3, p4, p5⟩ := key a ha
      obtain ⟨s1, s2, s3, s4, s5⟩ := key b hb
      rw [← p5, ← s5] at hi
      cases p1 <;> cases p2 <;> cases s1 <;> cases s2 <;> first | (simp [tgIs, p3, p4, s3, s4, all2]; done) | (exfalso; revert hi; decide)
    | true =>
      cases a with
      | int i =>
        cases b with
        | int j =>
          have g1 : (i ≤ (m : Int) - 1) = (i < m) := by rw [eq_iff_iff]; omega
          have g2 : (j ≤ (n : Int) - 1) = (j < n) := by rw [eq_iff_iff]; omega
          by_cases k1 : 0 ≤ i
          · by_cases k2 : i < m
            · by_cases k3 : 0 ≤ j
              · simp [tgIs, i0, i1, isCell, isIn, h1, h2, l, all2, g1, g2, k1, k2, k3]
              · simp [tgIs, i0, i1, isCell, isIn, h1, h2, l, all2, g1, g2, k1, k2, k3]
            · simp [tgIs, i0, i1, isCell, isIn, h1, h2, l, all2, g1, g2, k1, k2]
          · simp [tgIs, i0, i1, isCell, isIn, h1, h2, l, all2, g1, g2, k1]
        | _ => cases hi
      | _ => cases hi
end PK81

set_option Elab.async false
set_option linter.all false
set_option maxRecDepth 100000
set_option maxHeartbeats 4000000
namespace PK81
open PySem DL
structure Two (A B : List (List Int)) (m n : Nat) : Prop where
  a : Pc A m n 4
  b : Pc B m n 4
  m1 : 1 ≤ m
  m2 : m ≤ 4
  n1 : 1 ≤ n
  n2 : n ≤ 4
variable {A B : List (List Int)} {m n : Nat} {c w p : Int}
theorem full_pc (v : Pc A m n 4) (m1 : 1 ≤ m) (m2 : m ≤ 4) (n1 : 1 ≤ n) (n2 : n ≤ 4) : okFull (tT A) ∧ fullV (tT A) = true := by
  have l := v.l
  refine ⟨(okP.tup (v.rw n2) (by simp; omega)).1, ?_⟩
  have e1 : (A.map tI).all isTpl = true := by rw [List.all_map, List.all_eq_true]; intro r _; rfl
  have e2 : (A.map tI).map cells = A.map fun r => r.map PyData.int := by rw [List.map_map]; rfl
  have e3 : (A.map tI).length = m := by rw [List.length_map, l]
  show (decide (1 ≤ (A.map tI).length ∧ (A.map tI).length ≤ 12) && ((A.map tI).all isTpl && fullR ((A.map tI).map cells))) = true
  rw [e1, e2, e3, decide_eq_true (show 1 ≤ m ∧ m ≤ 12 by omega)]
  show fullR _ = true
  have hh : ((A.map fun r => r.map PyData.int).headD []).length = n := by
    cases A with
    | nil => simp at l; omega
    | cons r A => show (r.map PyData.int).length = n; rw [List.length_map]; exact v.w r (by simp)
  unfold fullR
  rw [hh]
  unfold fullW
  rw [decide_eq_true (show 1 ≤ n ∧ n ≤ 12 by omega), Bool.true_and, Bool.and_eq_true]
  constructor
  · rw [List.all_map, List.all_eq_true]
    intro r hr
    simpa using v.w r hr
  · rw [List.all_map, List.all_eq_true]
    intro r hr
    simp only [Function.comp]
    rw [List.all_map, List.all_eq_true]
    intro x hx
    have := v.c r hr x hx
    simp [isIn]; omega
theorem e_want_both (t : Two A B m n) : m_want_both [.d (tT A), .d (tT B)] = some (.d .none, [.d (tT A), .d (tT B)]) := by
  obtain ⟨v, u, m1, m2, n1, n2⟩ := t
  obtain ⟨f1, f2⟩ := full_pc v m1 m2 n1 n2
  obtain ⟨g1, g2⟩ := full_pc u m1 m2 n1 n2
  obtain ⟨r, a1, a2⟩ := v.row0 m1
  obtain ⟨s, b1, b2⟩ := u.row0 m1
  have e : m_want_full [.d (tT A)] = some (.d .none, [.d (tT A)]) := by
    apply OV.eq
    rw [m_want_full, OV_defn]
    simp [e_is_full_value f1, f2]
  apply OV.eq
  rw [m_want_both, OV_defn]
  simp [e, e_is_full_value g1, g2, v.l, u.l, a1, a2, b1, b2]
def S0 (A B : List (List Int)) : List Int := setI [cl A 0 0, cl B 0 0]
theorem S0_eq (A B : List (List Int)) : S0 A B = if cl A 0 0 < cl B 0 0 then [cl A 0 0, cl B 0 0] else if cl A 0 0 = cl B 0 0 then [cl A 0 0] else [cl B 0 0, cl A 0 0] := by
  show (if cl A 0 0 < cl B 0 0 then [cl A 0 0, cl B 0 0] else if cl A 0 0 = cl B 0 0 then [cl B 0 0] else cl B 0 0 :: [cl A 0 0]) = _
  by_cases h1 : cl A 0 0 < cl B 0 0
  · rw [if_pos h1, if_pos h1]
  · rw [if_neg h1, if_neg h1]
    by_cases h2 : cl A 0 0 = cl B 0 0
    · rw [if_pos h2, if_pos h2, h2]
    · rw [if_neg h2, if_neg h2]
theorem S0_len (A B : List (List Int)) : 1 ≤ (S0 A B).length ∧ (S0 A B).length ≤ 2 := by
  rw [S0_eq]; split
  · simp
  · split <;> simp
theorem S0_mem (t : Two A B m n) : ∀ k ∈ S0 A B, 0 ≤ k ∧ k ≤ 4 := by
  intro k hk
  have h : k ∈ [cl A 0 0, cl B 0 0] := (setI_mem k _).mp hk
  have key : ∀ {C : List (List Int)}, Pc C m n 4 → 0 ≤ cl C 0 0 ∧ cl C 0 0 ≤ 4 := fun {C} v => by
    have l := v.l
    have m1 := t.m1
    have n1 := t.n1
    have h1 := nth_mem (show (0 : Int) ≤ 0 by omega) (show (0 : Int) < C.length by omega)
    have h2 := v.w _ h1
    exact v.c _ h1 _ (nth_mem (by omega) (by omega))
  simp only [List.mem_cons, List.not_mem_nil, or_false] at h
  rcases h with rfl | rfl
  · exact key t.a
  · exact key t.b
theorem e_starts_of (t : Two A B m n) : m_starts_of [.d (tT A), .d (tT B)] = some (.own false ((S0 A B).map .int), [.d (tT A), .d (tT B)]) := by
  obtain ⟨v, u, m1, m2, n1, n2⟩ := t
  have h := S0_len A B
  apply OV.eq
  rw [m_starts_of, OV_defn]
  simp [e_both_at v u (show (0 : Int) ≤ 0 by omega) (show (0 : Int) < m by omega) (show (0 : Int) ≤ 0 by omega) (show (0 : Int) < n by omega)]
  have e : dInts [.int (cl A 0 0), .int (cl B 0 0)] = some [cl A 0 0, cl B 0 0] := dInts_map [cl A 0 0, cl B 0 0]
  have e2 : (setI [cl A 0 0, cl B 0 0]).length < 64 := by have := h.2; unfold S0 at this; omega
  simp [e, e2, S0]
theorem w_first_wrong (t : Two A B m n) {Q : SD × List SD → Prop} (k : ∀ r, (r = .none ∨ ∃ w p : Int, r = .tuple [.int w, .int p] ∧ 0 ≤ w ∧ w < m ∧ 0 ≤ p ∧ p < n) → Q (.d r, [.d (tT A), .d (tT B), .d (.int c)])) : OV (m_first_wrong [.d (tT A), .d (tT B), .d (.int c)]) Q := by
  obtain ⟨v, u, m1, m2, n1, n2⟩ := t
  have l := v.l
  obtain ⟨r0, a1, a2⟩ := v.row0 m1
  rw [m_first_wrong, OV_defn]
  simp [e_told_by v u m1 (show m ≤ 12 by omega) n1 (show n ≤ 12 by omega), l, rngI_nat m (show m ≤ 100000 by omega)]
  apply WFor.invOfA PyData.int (fun pre S => ∃ t4 t5, S = [.d (tT A), .d (tT B), .d (.int c), .d (toldV A B m n c), t4, t5]) ⟨_, _, rfl⟩
  · rintro pre w post S he ⟨t4, t5, rfl⟩
    have hw := mem_upto.mp (show w ∈ upto m by rw [he]; simp)
    simp [a1, a2, rngI_nat n (show n ≤ 100000 by omega)]
    apply WFor.invOfA PyData.int (fun pre S => ∃ t5, S = [.d (tT A), .d (tT B), .d (.int c), .d (toldV A B m n c), .d (.int w), t5]) ⟨_, rfl⟩
    · rintro pre2 p post2 S he2 ⟨t5, rfl⟩
      have hp := mem_upto.mp (show p ∈ upto n by rw [he2]; simp)
      simp [e_is_wrong_at v u hw.1 hw.2 hp.1 hp.2]
      cases wrong A B c w p with
      | true => simp; exact k _ (.inr ⟨w, p, rfl, hw.1, hw.2, hp.1, hp.2⟩)
      | false => simp; exact ⟨_, rfl⟩
    · rintro S ⟨t5, rfl⟩
      simp
      exact ⟨_, _, rfl⟩
  · rintro S ⟨t4, t5, rfl⟩
    simp
    exact k _ (.inl rfl)
end PK81

set_option Elab.async false
set_option linter.all false
set_option maxRecDepth 100000
set_option maxHeartbeats 4000000
namespace PK81
open PySem DL
variable {A B : List (List Int)} {m n : Nat} {c w p : Int}
def bD (q : Int × Int × Int) : PyData := .tuple [.int q.1, .tuple [.int q.2.1, .int q.2.2]]
def okB (m n : Nat) (q : Int × Int × Int) : Prop := (0 ≤ q.1 ∧ q.1 ≤ 4) ∧ (0 ≤ q.2.1 ∧ q.2.1 < m) ∧ 0 ≤ q.2.2 ∧ q.2.2 < n
def isFw (m n : Nat) (r : PyData) : Prop := r = .none ∨ ∃ w p : Int, r = .tuple [.int w, .int p] ∧ 0 ≤ w ∧ w < m ∧ 0 ≤ p ∧ p < n
def rD (q : Int × PyData) : PyData := .tuple [.int q.1, q.2]
theorem rs_ps : ∀ {rs : List (Int × PyData)}, (∀ q ∈ rs, (0 ≤ q.1 ∧ q.1 ≤ 4) ∧ isFw m n q.2) → rs.any (fun q => isNoneD q.2) = false → ∃ ps : List (Int × Int × Int), rs.map rD = ps.map bD ∧ ∀ q ∈ ps, okB m n q
  | [], _, _ => ⟨[], rfl, by simp⟩
  | (c, r) :: rs, h, e => by
    rw [List.any_cons, Bool.or_eq_false_iff] at e
    obtain ⟨ps, h1, h2⟩ := rs_ps (rs := rs) (fun q hq => h q (List.mem_cons_of_mem _ hq)) e.2
    obtain ⟨hc, hr⟩ := h (c, r) (by simp)
    rcases hr with hr | ⟨w, p, hr, hw⟩
    · have hr : r = .none := hr
      subst hr; cases e.1
    · have hr : r = .tuple [.int w, .int p] := hr
      subst hr
      refine ⟨(c, w, p) :: ps, by rw [List.map_cons, List.map_cons, h1]; rfl, fun q hq => ?_⟩
      rcases List.mem_cons.mp hq with rfl | hq
      · exact ⟨hc, ⟨hw.1, hw.2.1⟩, hw.2.2.1, hw.2.2.2⟩
      · exact h2 q hq
theorem w_side_bar (t : Two A B m n) {Q : SD × List SD → Prop} (k0 : Q (.d .none, [.d (tT A), .d (tT B)])) (k : ∀ ps : List (Int × Int × Int), (∀ q ∈ ps, okB m n q) → ps.length = (S0 A B).length → Q (.d (.list (ps.map bD)), [.d (tT A), .d (tT B)])) : OV (m_side_bar [.d (tT A), .d (tT B)]) Q := by
  have hs := S0_len A B
  have hm := S0_mem t
  rw [m_side_bar, OV_defn]
  simp [e_want_both t, e_starts_of t]
  refine ⟨by omega, ?_⟩
  apply WLc.invA (fun pre ys S => S = [.d (tT A), .d (tT B), .un, .un, .un] ∧ ∃ rs : List (Int × PyData), ys = rs.map rD ∧ rs.map (fun q => PyData.int q.1) = pre ∧ ∀ q ∈ rs, (0 ≤ q.1 ∧ q.1 ≤ 4) ∧ isFw m n q.2) ⟨rfl, [], rfl, rfl, by simp⟩
  · rintro pre x post ys S he ⟨rfl, rs, rfl, hp, hr⟩
    obtain ⟨c, hc, rfl⟩ := List.mem_map.mp (show x ∈ (S0 A B).map PyData.int by rw [he]; simp)
    have hc := hm c hc
    simp
    apply w_first_wrong t
    intro r hr2
    simp
    refine ⟨rfl, rs ++ [(c, r)], by rw [List.map_append]; rfl, by rw [List.map_append, hp]; rfl, fun q hq => ?_⟩
    rcases List.mem_append.mp hq with hq | hq
    · exact hr q hq
    · rw [List.mem_singleton.mp hq]; exact ⟨hc, hr2⟩
  · rintro ys S ⟨rfl, rs, rfl, hp, hr⟩
    have hl : rs.length = (S0 A B).length := by have := congrArg List.length hp; simpa using this
    simp [show rs.length < 100000 by omega, -List.map_map]
    apply WLc.mapOf rD (fun q => .bool (isNoneD q.2)) (fun q hq => by simp [rD])
    simp [any_map]
    cases z : rs.any (fun q => isNoneD q.2) with
    | true => simp [z]; exact k0
    | false =>
      obtain ⟨ps, h1, h2⟩ := rs_ps hr z
      simp [z]
      rw [h1]
      refine k ps h2 ?_
      have := congrArg List.length h1
      rw [List.length_map, List.length_map] at this
      omega
end PK81

set_option Elab.async false
set_option linter.all false
set_option maxRecDepth 100000
set_option maxHeartbeats 4000000
namespace PK81
open PySem DL
/-! texts of lists -/
abbrev pts (t : Str) : List Nat := t.cps.toList
theorem pts_app (a b : Str) : pts (a ++ b) = pts a ++ pts b := by
  unfold pts; rw [Str.cps_append, Array.toList_append]
theorem textFrom_pts : ∀ (ts : List Str) (k : Nat) (acc : Str), 0 < k → pts (textFrom k acc ts) = pts acc ++ ts.flatMap fun t => 44 :: 32 :: pts t
  | [], k, acc, _ => by simp [textFrom]
  | t :: r, k, acc, h => by
    show pts (textFrom (k + 1) (acc ++ (if k > 0 then ", " else "" : String) ++ t) r) = _
    rw [textFrom_pts r (k + 1) _ (by omega), pts_app, pts_app, if_pos h, List.flatMap_cons]
    have : pts ((", " : String) : Str) = [44, 32] := by decide +kernel
    rw [this]
    simp
def bt : List (List Nat) → List Nat
  | [] => []
  | t :: ts => t ++ ts.flatMap fun u => 44 :: 32 :: u
theorem listText_pts (ts : List Str) : pts (listText ts) = 91 :: (bt (ts.map pts) ++ [93]) := by
  have e1 : pts (("[" : String) : Str) = [91] := by decide +kernel
  have e2 : pts (("]" : String) : Str) = [93] := by decide +kernel
  unfold listText
  rw [pts_app, e2]
  cases ts with
  | nil => show pts _ ++ [93] = _; rw [show textFrom 0 "[" [] = (("[" : String) : Str) from rfl, e1]; rfl
  | cons t r =>
    show pts (textFrom 1 ((("[" : String) : Str) ++ (if 0 > 0 then ", " else "" : String) ++ t) r) ++ [93] = _
    rw [textFrom_pts r 1 _ (by omega), pts_app, pts_app, e1]
    have e3 : pts (((if 0 > 0 then ", " else "" : String)) : Str) = [] := by decide +kernel
    rw [e3]
    simp [bt, List.flatMap_map]
/-- one sign of 48 .. 55, or what begins otherwise -/
def tk (t : List Nat) : Prop := (∃ d, t = [d] ∧ 48 ≤ d ∧ d ≤ 55) ∨ ∃ h r, t = h :: r ∧ ¬ (48 ≤ h ∧ h ≤ 57) ∧ h ≠ 93
def dk (t : List Nat) : Prop := ∃ d, t = [d] ∧ 48 ≤ d ∧ d ≤ 55
theorem tl_inj : ∀ {ts ds : List (List Nat)}, (∀ t ∈ ts, tk t) → (∀ t ∈ ds, dk t) → (ts.flatMap fun u => 44 :: 32 :: u) ++ [93] = (ds.flatMap fun u => 44 :: 32 :: u) ++ [93] → ts = ds
  | [], [], _, _, _ => rfl
  | [], d :: ds, _, _, e => by simp at e
  | t :: ts, [], _, _, e => by simp at e
  | t :: ts, d :: ds, h1, h2, e => by
    obtain ⟨c, rfl, c1, c2⟩ := h2 d (by simp)
    simp only [List.flatMap_cons, List.cons_append, List.cons.injEq, true_and, List.append_assoc] at e
    rcases h1 t (by simp) with ⟨c', rfl, _, _⟩ | ⟨h, r, rfl, n1, _⟩
    · simp only [List.cons_append, List.nil_append, List.cons.injEq] at e
      rw [tl_inj (fun t ht => h1 t (List.mem_cons_of_mem _ ht)) (fun t ht => h2 t (List.mem_cons_of_mem _ ht)) e.2, e.1]
    · simp only [List.cons_append, List.nil_append, List.cons.injEq] at e
      omega
theorem bt_inj {ts ds : List (List Nat)} (h1 : ∀ t ∈ ts, tk t) (h2 : ∀ t ∈ ds, dk t) (e : bt ts ++ [93] = bt ds ++ [93]) : ts = ds := by
  cases ts with
  | nil =>
    cases ds with
    | nil => rfl
    | cons d ds =>
      obtain ⟨c, rfl, c1, c2⟩ := h2 d (by simp)
      simp [bt] at e
  | cons t ts =>
    cases ds with
    | nil =>
      exfalso
      rcases h1 t (by simp) with ⟨c', rfl, _, _⟩ | ⟨h, r, rfl, n1, n2⟩
      · simp [bt] at e
      · simp [bt] at e
    | cons d ds =>
      obtain ⟨c, rfl, c1, c2⟩ := h2 d (by simp)
      simp only [bt, List.append_assoc] at e
      rcases h1 t (by simp) with ⟨c', rfl, _, _⟩ | ⟨h, r, rfl, n1, _⟩
      · simp only [List.cons_append, List.nil_append, List.cons.injEq] at e
        rw [tl_inj (fun t ht => h1 t (List.mem_cons_of_mem _ ht)) (fun t ht => h2 t (List.mem_cons_of_mem _ ht)) e.2, e.1]
      · simp only [List.cons_append, List.nil_append, List.cons.injEq] at e
        omega
theorem dk_int {k : Int} (h1 : 0 ≤ k) (h2 : k ≤ 7) : pts (PyData.int k).shown = [48 + k.toNat] := by
  have h : k = 0 ∨ k = 1 ∨ k = 2 ∨ k = 3 ∨ k = 4 ∨ k = 5 ∨ k = 6 ∨ k = 7 := by omega
  rcases h with h | h | h | h | h | h | h | h <;> subst h <;> decide +kernel
/-- what stands first in an item of a bar -/
structure okF (a : PyData) : Prop where
  t : okT a = true
  ok : okR a = true
  wt : DL.wt a ≤ 100
  d : a.depth ≤ 2
  h : (∃ k : Int, a = .int k ∧ 0 ≤ k ∧ k ≤ 7) ∨ (isInt a = false ∧ ∃ h r, pts a.shown = h :: r ∧ ¬ (48 ≤ h ∧ h ≤ 57) ∧ h ≠ 93)
theorem okF.tk {a : PyData} (h : okF a) : tk (pts a.shown) := by
  rcases h.h with ⟨k, rfl, h1, h2⟩ | ⟨_, h, r, e, h1, h2⟩
  · exact .inl ⟨_, dk_int h1 h2, by omega, by omega⟩
  · exact .inr ⟨h, r, e, h1, h2⟩
theorem shown_list (xs : List PyData) : (PyData.list xs).shown = listText (xs.map PyData.shown) := by
  simp only [PyData.shown]; rw [shownAll_map]
theorem shown_firsts {xs : List PyData} {ks : List Int} (h : ∀ x ∈ xs, okF x) (hk : ∀ k ∈ ks, 0 ≤ k ∧ k ≤ 7) : (PyData.list xs).shown = (PyData.list (ks.map .int)).shown ↔ dInts xs = some ks := by
  constructor
  · intro e
    have e : pts (listText (xs.map PyData.shown)) = pts (listText ((ks.map PyData.int).map PyData.shown)) := by rw [← shown_list, ← shown_list, e]
    rw [listText_pts, listText_pts] at e
    have e := bt_inj (fun t ht => by
      obtain ⟨s, hs, rfl⟩ := List.mem_map.mp ht
      obtain ⟨x, hx, rfl⟩ := List.mem_map.mp hs
      exact (h x hx).tk) (fun t ht => by
      obtain ⟨s, hs, rfl⟩ := List.mem_map.mp ht
      obtain ⟨x, hx, rfl⟩ := List.mem_map.mp hs
      obtain ⟨k, hk1, rfl⟩ := List.mem_map.mp hx
      have := hk k hk1
      exact ⟨_, dk_int this.1 this.2, by omega, by omega⟩) (List.cons.inj e).2
    simp only [List.map_map] at e
    have key : ∀ {xs : List PyData} {ks : List Int}, (∀ x ∈ xs, okF x) → (∀ k ∈ ks, 0 ≤ k ∧ k ≤ 7) → xs.map (pts ∘ PyData.shown) = ks.map (pts ∘ PyData.shown ∘ PyData.int) → xs = ks.map .int := by
      intro xs
      induction xs with
      | nil => intro ks _ _ e; cases ks with
        | nil => rfl
        | cons k ks => cases e
      | cons x xs ih =>
        intro ks h hk e
        cases ks with
        | nil => cases e
        | cons k ks =>
          obtain ⟨e1, e2⟩ := List.cons.inj e
          rw [List.map_cons, ← ih (fun y hy => h y (List.mem_cons_of_mem _ hy)) (fun y hy => hk y (List.mem_cons_of_mem _ hy)) e2]
          congr 1
          have hk0 := hk k (by simp)
          have e1 : pts x.shown = [48 + k.toNat] := e1.trans (dk_int hk0.1 hk0.2)
          rcases (h x (by simp)).h with ⟨j, rfl, h1, h2⟩ | ⟨_, hd, r, q, h1, h2⟩
          · rw [dk_int h1 h2] at e1
            have : 48 + j.toNat = 48 + k.toNat := by simpa using e1
            congr 1; omega
          · rw [q] at e1
            have : hd = 48 + k.toNat := (List.cons.inj e1).1
            omega
    rw [key h hk e, dInts_map]
  · intro e
    rw [dInts_some e]
end PK81

set_option Elab.async false
set_option linter.all false
set_option maxRecDepth 100000
set_option maxHeartbeats 4000000
namespace PK81
open PySem DL
variable {A B : List (List Int)} {m n : Nat} {c w p : Int}
structure okIt (x : PyData) : Prop where
  t : okT x = true
  two : ∀ a c, x = .tuple [a, c] → okF a ∧ okCell c
def fst1 : PyData → PyData
  | .tuple [a, _] => a
  | _ => .none
def snd1 : PyData → PyData
  | .tuple [_, c] => c
  | _ => .none
def wr (A B : List (List Int)) : PyData → Bool
  | .tuple [.int c, .tuple [.int w, .int p]] => wrong A B c w p
  | _ => false
def barB (A B : List (List Int)) (m n : Nat) (xs : List PyData) : Bool := xs.all (isTup 2) && (decide (dInts (xs.map fst1) = some (S0 A B)) && (xs.all (fun x => isCell m n (snd1 x)) && xs.all (wr A B)))
def pD (q : PyData × PyData) : PyData := .tuple [q.1, q.2]
theorem twos_of : ∀ {xs : List PyData}, xs.all (isTup 2) = true → ∃ ps : List (PyData × PyData), xs = ps.map pD
  | [], _ => ⟨[], rfl⟩
  | x :: xs, h => by
    rw [List.all_cons, Bool.and_eq_true] at h
    obtain ⟨ps, rfl⟩ := twos_of h.2
    obtain ⟨a, c, rfl⟩ := two_of h.1
    exact ⟨(a, c) :: ps, rfl⟩
theorem all_two (ps : List (PyData × PyData)) : (ps.map pD).all (isTup 2) = true := by
  rw [List.all_map, List.all_eq_true]; intro q _; rfl
theorem qs_of' : ∀ {ps : List (PyData × PyData)} {ks : List Int}, ps.map Prod.fst = ks.map PyData.int → ∃ qs : List (Int × PyData), ps.map pD = qs.map rD ∧ qs.map Prod.fst = ks
  | [], [], _ => ⟨[], rfl, rfl⟩
  | [], k :: ks, h => by cases h
  | q :: ps, [], h => by cases h
  | (a, c) :: ps, k :: ks, h => by
    obtain ⟨e1, e2⟩ := List.cons.inj h
    obtain ⟨qs, h1, h2⟩ := qs_of' (ps := ps) (ks := ks) e2
    have e1 : a = .int k := e1
    subst e1
    exact ⟨(k, c) :: qs, by rw [List.map_cons, List.map_cons, h1]; rfl, by rw [List.map_cons, h2]⟩
theorem qs_of {ps : List (PyData × PyData)} {ks : List Int} (h : dInts (ps.map Prod.fst) = some ks) : ∃ qs : List (Int × PyData), ps.map pD = qs.map rD ∧ qs.map Prod.fst = ks := qs_of' (dInts_some h)
theorem ts_of : ∀ {qs : List (Int × PyData)}, qs.all (fun q => isCell m n q.2) = true → ∃ ts : List (Int × Int × Int), qs.map rD = ts.map bD ∧ ∀ q ∈ ts, (0 ≤ q.2.1 ∧ q.2.1 < m) ∧ 0 ≤ q.2.2 ∧ q.2.2 < n
  | [], _ => ⟨[], rfl, by simp⟩
  | (k, c) :: qs, h => by
    rw [List.all_cons, Bool.and_eq_true] at h
    obtain ⟨ts, h1, h2⟩ := ts_of h.2
    obtain ⟨w, p, e, hw⟩ := isCell_some h.1
    have e : c = .tuple [.int w, .int p] := e
    subst e
    refine ⟨(k, w, p) :: ts, by rw [List.map_cons, List.map_cons, h1]; rfl, fun q hq => ?_⟩
    rcases List.mem_cons.mp hq with rfl | hq
    · exact ⟨⟨hw.1, hw.2.1⟩, hw.2.2⟩
    · exact h2 q hq
theorem barB_qs (qs : List (Int × PyData)) : barB A B m n (qs.map rD) = (decide (qs.map Prod.fst = S0 A B) && (qs.all (fun q => isCell m n q.2) && (qs.map rD).all (wr A B))) := by
  have e1 : (qs.map rD).all (isTup 2) = true := by rw [List.all_map, List.all_eq_true]; intro q _; rfl
  have e2 : (qs.map rD).map fst1 = (qs.map Prod.fst).map PyData.int := by rw [List.map_map, List.map_map]; rfl
  have e3 : (qs.map rD).all (fun x => isCell m n (snd1 x)) = qs.all (fun q => isCell m n q.2) := by rw [List.all_map]; rfl
  unfold barB
  rw [e1, e2, e3, dInts_map, Bool.true_and]
  congr 1
  rw [Bool.eq_iff_iff]; simp
theorem barB_qs_of {xs : List PyData} {qs : List (Int × PyData)} (h : xs = qs.map rD) : barB A B m n xs = (decide (qs.map Prod.fst = S0 A B) && (qs.all (fun q => isCell m n q.2) && (qs.map rD).all (wr A B))) := by rw [h]; exact barB_qs qs
theorem wr_ts (ts : List (Int × Int × Int)) : (ts.map bD).all (wr A B) = ts.all fun q => wrong A B q.1 q.2.1 q.2.2 := by rw [List.all_map]; rfl
def c1 (x : PyData) : Bool := isTup 2 x && isCount (fst1 x)
theorem qs_c1 : ∀ {xs : List PyData}, xs.all c1 = true → ∃ qs : List (Int × PyData), xs = qs.map rD
  | [], _ => ⟨[], rfl⟩
  | x :: xs, h => by
    rw [List.all_cons, Bool.and_eq_true] at h
    obtain ⟨qs, rfl⟩ := qs_c1 h.2
    have h1 := h.1
    unfold c1 at h1
    rw [Bool.and_eq_true] at h1
    obtain ⟨a, c, rfl⟩ := two_of h1.1
    have h2 : isCount a = true := h1.2
    cases a with
    | int k => exact ⟨(k, c) :: qs, rfl⟩
    | _ => cases h2
theorem barB_no {xs : List PyData} (t : Two A B m n) (h : xs.all c1 = false) : barB A B m n xs = false := by
  cases z : barB A B m n xs with
  | false => rfl
  | true =>
    exfalso
    simp only [barB, Bool.and_eq_true, decide_eq_true_eq] at z
    obtain ⟨z1, z2, _⟩ := z
    obtain ⟨x, hx, h2⟩ := List.all_eq_false.mp h
    apply h2
    unfold c1
    rw [Bool.and_eq_true]
    refine ⟨List.all_eq_true.mp z1 x hx, ?_⟩
    have e := dInts_some z2
    have : fst1 x ∈ (S0 A B).map PyData.int := by rw [← e]; exact List.mem_map.mpr ⟨x, hx, rfl⟩
    obtain ⟨k, hk, e2⟩ := List.mem_map.mp this
    rw [← e2]
    have := S0_mem t k hk
    simp [isCount]; omega
structure okBar (v : PyData) (xs : List PyData) : Prop where
  t : okT v = true
  ls : isLs v = true
  it : dItems v = some xs
  l : xs.length ≤ 100
  ok : ∀ x ∈ xs, okIt x
theorem e_is_side_bar (t : Two A B m n) {v : PyData} {xs : List PyData} (h : okBar v xs) : m_is_side_bar [.d (tT A), .d (tT B), .d v] = some (.d (.bool (barB A B m n xs)), [.d (tT A), .d (tT B), .d v]) := by
  obtain ⟨ht, hls, hit, hl, hok⟩ := h
  apply OV.eq
  rw [m_is_side_bar, OV_defn]
  simp [e_want_both t, ht, hls, hit, show xs.length < 100000 by omega]
  apply WLc.map (fun x => .bool (c1 x)) (fun x hx => by
    have h1 := hok x hx
    cases q : isTup 2 x with
    | false => simp [h1.t, q, c1]
    | true =>
      obtain ⟨a, c, rfl⟩ := two_of q
      obtain ⟨ha, hc⟩ := h1.two a c rfl
      have i0 : L2.atI [a, c] 0 = some a := by rw [atI_of (by omega)]; rfl
      simp [q, i0, ha.t, fst1, c1])
  cases h1 : xs.all c1 with
  | false => simp [all_map, h1, barB_no t h1]
  | true =>
    obtain ⟨qs, hqs⟩ := qs_c1 h1
    have hl2 : qs.length ≤ 100 := by rw [hqs, List.length_map] at hl; exact hl
    simp [all_map, h1, hit, show xs.length < 100000 by omega]
    rw [barB_qs_of hqs]
    rw [hqs]
    apply WLc.mapOf rD (fun q => .int q.1) (fun q hq => by simp [rD, atI_of])
    have k2 : dNe (.list (qs.map fun q => PyData.int q.1)) (.list ((S0 A B).map .int)) = some (.bool (!decide (qs.map Prod.fst = S0 A B))) := by
      have := dNe_enc ((enc_int 0).lst) (by decide) (qs.map Prod.fst) (S0 A B)
      rwa [List.map_map] at this
    cases h2 : decide (qs.map Prod.fst = S0 A B) with
    | false => simp [e_starts_of t, k2, h2]
    | true =>
      have hq : ∀ q ∈ qs, okCell q.2 := fun q hq => (( hok (rD q) (by rw [hqs]; exact List.mem_map.mpr ⟨q, hq, rfl⟩)).two _ _ rfl).2
      simp [e_starts_of t, k2, h2, hit, show xs.length < 100000 by omega]
      rw [hqs]
      apply WLc.mapOf rD (fun q => .bool (isCell m n q.2)) (fun q hq' => by
        simp [rD, atI_of, e_is_cell_of t.a t.m1 (hq q hq')])
      cases h3 : qs.all (fun q => isCell m n q.2) with
      | false => simp [all_map, h3]
      | true =>
        obtain ⟨ts, hts, hr⟩ := ts_of h3
        have hl3 : ts.length ≤ 100 := by have := congrArg List.length hts; rw [List.length_map, List.length_map] at this; omega
        simp [all_map, h3, hit, show xs.length < 100000 by omega]
        rw [hts, wr_ts]
        rw [hqs, hts]
        apply WLc.mapOf bD (fun q => .bool (wrong A B q.1 q.2.1 q.2.2)) (fun q hq' => by
          have := hr q hq'
          have m2 := t.m2
          have n2 := t.n2
          simp [bD, atI_of, e_told_by t.a t.b t.m1 (show m ≤ 12 by omega) t.n1 (show n ≤ 12 by omega), e_is_wrong_at t.a t.b this.1.1 this.1.2 this.2.1 this.2.2])
        simp [all_map]
end PK81

set_option Elab.async false
set_option linter.all false
set_option maxRecDepth 100000
set_option maxHeartbeats 4000000
namespace PK81
open PySem DL
variable {A B : List (List Int)} {m n : Nat} {c w p : Int}
theorem repr_firsts {xs : List PyData} (h : ∀ x ∈ xs, okF x) (hl : xs.length ≤ 100) : dRepr [.list xs] = some (.str (PyData.list xs).shown) := by
  refine dRepr_ok (reprOk_of (by simp only [okR]; rw [okRL_all]; exact fun y hy => (h y hy).ok) ?_ (Nat.le_trans (depth_list fun y hy => (h y hy).d) (by omega)))
  simp only [DL.wt]
  have := wtL_le (w := 100) fun y hy => (h y hy).wt
  omega
theorem okF_int {k : Int} (h1 : 0 ≤ k) (h2 : k ≤ 7) : okF (.int k) := ⟨rfl, by simp only [okR, decide_eq_true_eq]; omega, by simp [DL.wt], by simp [PyData.depth], .inl ⟨k, rfl, h1, h2⟩⟩
theorem due_of (A B : List (List Int)) : ∃ a b : Int, sortI [cl A 0 0, cl B 0 0] = [a, b] ∧ S0 A B = if a = b then [a] else [a, b] := by
  rw [sort2, S0_eq]
  by_cases h1 : cl A 0 0 < cl B 0 0
  · refine ⟨cl A 0 0, cl B 0 0, by rw [if_pos (by omega)], ?_⟩
    rw [if_pos h1, if_neg (by omega)]
  · rw [if_neg h1]
    by_cases h2 : cl A 0 0 = cl B 0 0
    · refine ⟨cl A 0 0, cl B 0 0, by rw [if_pos (by omega)], ?_⟩
      rw [if_pos h2, if_pos h2]
    · refine ⟨cl B 0 0, cl A 0 0, by rw [if_neg (by omega)], ?_⟩
      rw [if_neg h2, if_neg (by omega)]
theorem e_law_is_bar (t : Two A B m n) {v : PyData} {xs : List PyData} (h : okBar v xs) : m__law_is_bar [.d (tT A), .d (tT B), .d v] = some (.d (.bool (barB A B m n xs)), [.d (tT A), .d (tT B), .d v]) := by
  obtain ⟨ht, hls, hit, hl, hok⟩ := h
  have m1 := t.m1
  have n1 := t.n1
  obtain ⟨r, a1, a2⟩ := t.a.at (w := 0) (p := 0) (by omega) (by omega) (by omega) (by omega)
  obtain ⟨s, b1, b2⟩ := t.b.at (w := 0) (p := 0) (by omega) (by omega) (by omega) (by omega)
  have isl : ∃ k1 k2, isTy .list v = some k1 ∧ isTy .tuple v = some k2 ∧ (k1 || k2) = true := by
    cases v with
    | list ys => exact ⟨_, _, rfl, rfl, rfl⟩
    | tuple ys => exact ⟨_, _, rfl, rfl, rfl⟩
    | _ => cases hls
  obtain ⟨k1, k2, i1, i2, i3⟩ := isl
  have hcnt : xs.length < 100000 := by omega
  apply OV.eq
  rw [m__law_is_bar, OV_defn]
  simp [i1, i2, i3, hit, hcnt]
  apply WLc.map (fun x => .bool (isTup 2 x)) (fun x hx => by
    have h1 := (hok x hx).t
    cases x with
    | tuple ys => simp [tgIs, isTup]
    | dict kvs => rw [okT_dict h1]; simp [tgIs, isTup]
    | _ => simp [tgIs, isTup])
  cases h1 : xs.all (isTup 2) with
  | false =>
    have : barB A B m n xs = false := by unfold barB; rw [h1, Bool.false_and]
    simp [all_map, h1, this]
  | true =>
    obtain ⟨ps, hps⟩ := twos_of h1
    have hl2 : ps.length ≤ 100 := by rw [hps, List.length_map] at hl; exact hl
    have k1 : dSortedL [.list [.int (cl A 0 0), .int (cl B 0 0)]] = some ((sortI [cl A 0 0, cl B 0 0]).map .int) := sort_lI [cl A 0 0, cl B 0 0]
    simp [all_map, h1, a1, a2, b1, b2, k1, -w_if]
    obtain ⟨a, b, hd, hS⟩ := due_of A B
    rw [hd]
    have j0 : L2.atI [PyData.int a, PyData.int b] 0 = some (.int a) := by rw [atI_of (by omega)]; rfl
    have j1 : L2.atI [PyData.int a, PyData.int b] 1 = some (.int b) := by rw [atI_of (by omega)]; rfl
    have j2 : cutD [PyData.int a, PyData.int b] none (some 1) = [.int a] := cutI_to (xs := [PyData.int a, PyData.int b]) (k := 1) (by omega)
    obtain ⟨D, hD⟩ : ∃ D, D = (S0 A B).map PyData.int := ⟨_, rfl⟩
    by_cases hab : a = b
    case' pos =>
      subst hab
      have e : PyData.list [.int a] = .list D := by rw [hD, hS, if_pos rfl]; rfl
      simp [j0, j1, j2]
      rw [e]
    case' neg =>
      have e : PyData.list [.int a, .int b] = .list D := by rw [hD, hS, if_neg hab]; rfl
      simp [j0, j1, hab]
      rw [e]
    all_goals
      have hf : ∀ q ∈ ps, okF q.1 ∧ okCell q.2 := fun q hq => (hok (pD q) (by rw [hps]; exact List.mem_map.mpr ⟨q, hq, rfl⟩)).two _ _ rfl
      have hf1 : ∀ x ∈ ps.map Prod.fst, okF x := fun x hx => by
        obtain ⟨q, hq, rfl⟩ := List.mem_map.mp hx
        exact (hf q hq).1
      have hS0 := S0_mem t
      have R1 := repr_firsts hf1 (by simpa using hl2)
      have R2 : dRepr [.list D] = some (.str (PyData.list D).shown) := by
        rw [hD]
        refine repr_firsts (fun x hx => ?_) (by have := (S0_len A B).2; simp; omega)
        obtain ⟨k, hk, rfl⟩ := List.mem_map.mp hx
        have := hS0 k hk
        exact okF_int (by omega) (by omega)
      have Z : ((PyData.list (ps.map Prod.fst)).shown = (PyData.list D).shown) = (dInts (ps.map Prod.fst) = some (S0 A B)) := by
        rw [hD, eq_iff_iff]
        exact shown_firsts hf1 fun k hk => by have := hS0 k hk; omega
      simp [hit, hcnt]
      rw [hps]
      apply WLc.mapOf pD Prod.fst (fun q hq => by simp [pD, atI_of])
      simp [R1, R2, Z]
      by_cases hi : dInts (ps.map Prod.fst) = some (S0 A B)
      · rw [if_pos hi]
        obtain ⟨qs, hq1, hq2⟩ := qs_of hi
        have hqs : xs = qs.map rD := hps.trans hq1
        have hq : ∀ q ∈ qs, okCell q.2 := fun q hq => ((hok (rD q) (by rw [hqs]; exact List.mem_map.mpr ⟨q, hq, rfl⟩)).two _ _ rfl).2
        simp [hit, hcnt]
        rw [← hps, barB_qs_of hqs, decide_eq_true hq2]
        rw [hqs]
        apply WLc.mapOf rD (fun q => .bool (isCell m n q.2)) (fun q hq' => by
          simp [rD, atI_of, e_law_is_cell t.a t.m1 (hq q hq')])
        cases h3 : qs.all (fun q => isCell m n q.2) with
        | false => simp [all_map, h3]
        | true =>
          obtain ⟨ts, hts, hr⟩ := ts_of h3
          have hl3 : ts.length ≤ 100 := by
            have e1 := congrArg List.length hts
            have e2 := congrArg List.length hq1
            rw [List.length_map, List.length_map] at e1 e2
            omega
          simp [all_map, h3, hit, hcnt]
          rw [hts, wr_ts]
          rw [hqs, hts]
          apply WLc.mapOf bD (fun q => .bool (wrong A B q.1 q.2.1 q.2.2)) (fun q hq' => by
            have := hr q hq'
            simp [bD, e_law_is_wrong t.a t.b t.m1 t.n1 this.1.1 this.1.2 this.2.1 this.2.2])
          simp [all_map]
      · rw [if_neg hi]
        have e : (ps.map pD).map fst1 = ps.map Prod.fst := by rw [List.map_map]; rfl
        unfold barB
        rw [e, decide_eq_false hi, Bool.false_and, Bool.and_false]
end PK81

set_option Elab.async false
set_option linter.all false
set_option maxRecDepth 100000
set_option maxHeartbeats 4000000
namespace PK81
open PySem DL
variable {A B : List (List Int)} {m n : Nat} {c w p : Int}
/-- an item of what is judged -/
structure It (x : PyData) : Prop where
  i : okIt x
  ok : okR x = true
  wt : DL.wt x ≤ 300
  d : x.depth ≤ 3
structure BV (v : PyData) : Prop where
  r : reprOk v = true
  j : (isLs v = false ∧ okT v = true) ∨ ∃ xs, okBar v xs
theorem BV.lst {xs : List PyData} (h : ∀ x ∈ xs, It x) (hl : xs.length ≤ 100) : BV (.list xs) := by
  refine ⟨reprOk_of (by simp only [okR]; rw [okRL_all]; exact fun y hy => (h y hy).ok) ?_ (Nat.le_trans (depth_list fun y hy => (h y hy).d) (by omega)), .inr ⟨xs, rfl, rfl, rfl, hl, fun x hx => (h x hx).i⟩⟩
  simp only [DL.wt]
  have := wtL_le (w := 300) fun y hy => (h y hy).wt
  omega
theorem BV.tup {xs : List PyData} (h : ∀ x ∈ xs, It x) (hl : xs.length ≤ 100) : BV (.tuple xs) := by
  refine ⟨reprOk_of (by simp only [okR]; rw [okRL_all]; exact fun y hy => (h y hy).ok) ?_ (Nat.le_trans (depth_tuple fun y hy => (h y hy).d) (by omega)), .inr ⟨xs, rfl, rfl, rfl, hl, fun x hx => (h x hx).i⟩⟩
  simp only [DL.wt]
  have := wtL_le (w := 300) fun y hy => (h y hy).wt
  omega
theorem BV.no {v : PyData} (h1 : reprOk v = true) (h2 : isLs v = false) (h3 : okT v = true) : BV v := ⟨h1, .inl ⟨h2, h3⟩⟩
theorem BV.judged {v : PyData} (t : Two A B m n) (h : BV v) : ∃ b : Bool, m_is_side_bar [.d (tT A), .d (tT B), .d v] = some (.d (.bool b), [.d (tT A), .d (tT B), .d v]) ∧ m__law_is_bar [.d (tT A), .d (tT B), .d v] = some (.d (.bool b), [.d (tT A), .d (tT B), .d v]) := by
  rcases h.j with ⟨h1, h2⟩ | ⟨xs, h1⟩
  · refine ⟨false, ?_, ?_⟩
    · apply OV.eq
      rw [m_is_side_bar, OV_defn]
      simp [e_want_both t, h2, h1]
    · have key : ∃ k1 k2, isTy .list v = some k1 ∧ isTy .tuple v = some k2 ∧ (k1 || k2) = false := by
        cases v with
        | list ys => cases h1
        | tuple ys => cases h1
        | dict kvs => rw [okT_dict h2]; exact ⟨_, _, rfl, rfl, rfl⟩
        | _ => exact ⟨_, _, rfl, rfl, rfl⟩
      obtain ⟨k1, k2, i1, i2, i3⟩ := key
      apply OV.eq
      rw [m__law_is_bar, OV_defn]
      simp [i1, i2, i3]
  · exact ⟨_, e_is_side_bar t h1, e_law_is_bar t h1⟩
/-- the odd ones -/
def odds : List PyData := [.none, .bool true, .int 0, .int 7, .str "1", .tuple [], .tuple [.int 0], .list [.int 0, .int 0], .tuple [.int 0, .int 0, .int 0], .tuple [.bool true, .int 0], .tuple [.int 0, .int (-1)], .tuple [.int 99, .int 0]]
theorem head_of {a : PyData} (h0 : isInt a = false) (h : (match pts a.shown with | [] => false | c :: _ => !(decide (48 ≤ c) && decide (c ≤ 57)) && !decide (c = 93)) = true) : (∃ k : Int, a = .int k ∧ 0 ≤ k ∧ k ≤ 7) ∨ (isInt a = false ∧ ∃ h r, pts a.shown = h :: r ∧ ¬ (48 ≤ h ∧ h ≤ 57) ∧ h ≠ 93) := by
  refine .inr ⟨h0, ?_⟩
  cases q : pts a.shown with
  | nil => rw [q] at h; cases h
  | cons c r =>
    rw [q] at h
    simp at h
    exact ⟨c, r, rfl, by omega, h.2⟩
theorem wt_one : DL.wt (.str "1") = 3 := by
  have : (reprText "1").length = 3 := by decide +kernel
  simpa [DL.wt] using this
theorem odds_F : ∀ x ∈ odds, okF x := by
  intro x hx
  simp only [odds, List.mem_cons, List.not_mem_nil, or_false] at hx
  rcases hx with rfl | rfl | rfl | rfl | rfl | rfl | rfl | rfl | rfl | rfl | rfl | rfl
  · exact ⟨rfl, by simp [okR], by simp [DL.wt], by simp [PyData.depth], head_of rfl (by decide +kernel)⟩
  · exact ⟨rfl, by simp [okR], by simp [DL.wt], by simp [PyData.depth], head_of rfl (by decide +kernel)⟩
  · exact okF_int (by omega) (by omega)
  · exact okF_int (by omega) (by omega)
  · exact ⟨rfl, by simp [okR], by rw [wt_one]; omega, by simp [PyData.depth], head_of rfl (by decide +kernel)⟩
  · exact ⟨rfl, by simp [okR, okRL], by simp [DL.wt, wtL], by simp [PyData.depth, PyData.depthAll], head_of rfl (by decide +kernel)⟩
  · exact ⟨rfl, by simp [okR, okRL], by simp [DL.wt, wtL], by simp [PyData.depth, PyData.depthAll], head_of rfl (by decide +kernel)⟩
  · exact ⟨rfl, by simp [okR, okRL], by simp [DL.wt, wtL], by simp [PyData.depth, PyData.depthAll], head_of rfl (by decide +kernel)⟩
  · exact ⟨rfl, by simp [okR, okRL], by simp [DL.wt, wtL], by simp [PyData.depth, PyData.depthAll], head_of rfl (by decide +kernel)⟩
  · exact ⟨rfl, by simp [okR, okRL], by simp [DL.wt, wtL], by simp [PyData.depth, PyData.depthAll], head_of rfl (by decide +kernel)⟩
  · exact ⟨rfl, by simp [okR, okRL], by simp [DL.wt, wtL], by simp [PyData.depth, PyData.depthAll], head_of rfl (by decide +kernel)⟩
  · exact ⟨rfl, by simp [okR, okRL], by simp [DL.wt, wtL], by simp [PyData.depth, PyData.depthAll], head_of rfl (by decide +kernel)⟩
theorem odds_C : ∀ x ∈ odds, okCell x := by
  intro x hx
  simp only [odds, List.mem_cons, List.not_mem_nil, or_false] at hx
  rcases hx with rfl | rfl | rfl | rfl | rfl | rfl | rfl | rfl | rfl | rfl | rfl | rfl <;> exact ⟨rfl, by simp [cells]⟩
end PK81

set_option Elab.async false
set_option linter.all false
set_option maxRecDepth 100000
set_option maxHeartbeats 4000000
namespace PK81
open PySem DL
variable {A B : List (List Int)} {m n : Nat} {c w p : Int}
structure Cz (x : PyData) : Prop where
  c : okCell x
  ok : okR x = true
  wt : DL.wt x ≤ 100
  d : x.depth ≤ 2
theorem Cz.odd {x : PyData} (h : x ∈ odds) : Cz x := ⟨odds_C x h, (odds_F x h).ok, (odds_F x h).wt, (odds_F x h).d⟩
theorem Cz.cell {w p : Int} (h1 : w.natAbs ≤ 1000) (h2 : p.natAbs ≤ 1000) : Cz (.tuple [.int w, .int p]) :=
  ⟨⟨rfl, by simp [cells]⟩, by simp only [okR, okRL, Bool.and_true, Bool.and_eq_true, decide_eq_true_eq]; omega, by simp [DL.wt, wtL], by simp [PyData.depth, PyData.depthAll]⟩
theorem It.pair {a c : PyData} (ha : okF a) (hc : Cz c) : It (.tuple [a, c]) := by
  have h1 := ha.wt
  have h2 := hc.wt
  have h3 := ha.d
  have h4 := hc.d
  refine ⟨⟨rfl, fun a' c' e => by cases e; exact ⟨ha, hc.c⟩⟩, by simp [okR, okRL, ha.ok, hc.ok], by simp only [DL.wt, wtL]; omega, ?_⟩
  exact depth_tuple (n := 2) fun x hx => by
    simp only [List.mem_cons, List.not_mem_nil, or_false] at hx
    rcases hx with rfl | rfl <;> assumption
theorem It.lst {a c : PyData} (ha : okF a) (hc : Cz c) : It (.list [a, c]) := by
  have h1 := ha.wt
  have h2 := hc.wt
  have h3 := ha.d
  have h4 := hc.d
  refine ⟨⟨rfl, fun a' c' e => by cases e⟩, by simp [okR, okRL, ha.ok, hc.ok], by simp only [DL.wt, wtL]; omega, ?_⟩
  exact depth_list (n := 2) fun x hx => by
    simp only [List.mem_cons, List.not_mem_nil, or_false] at hx
    rcases hx with rfl | rfl <;> assumption
theorem It.one {a : PyData} (ha : okF a) : It (.tuple [a]) := by
  have h1 := ha.wt
  have h3 := ha.d
  refine ⟨⟨rfl, fun a' c' e => by cases e⟩, by simp [okR, okRL, ha.ok], by simp only [DL.wt, wtL]; omega, ?_⟩
  exact depth_tuple (n := 2) fun x hx => by
    rw [List.mem_singleton] at hx; subst hx; exact h3
theorem It.sc {k : Int} (h : k.natAbs ≤ 1000) : It (.int k) := ⟨⟨rfl, fun a' c' e => by cases e⟩, by simp only [okR, decide_eq_true_eq]; omega, by simp [DL.wt], by simp [PyData.depth]⟩
theorem It.tru : It (.bool true) := ⟨⟨rfl, fun a' c' e => by cases e⟩, by simp [okR], by simp [DL.wt], by simp [PyData.depth]⟩
theorem It.non : It .none := ⟨⟨rfl, fun a' c' e => by cases e⟩, by simp [okR], by simp [DL.wt], by simp [PyData.depth]⟩
theorem odds_B : ∀ x ∈ odds, BV x := by
  intro x hx
  simp only [odds, List.mem_cons, List.not_mem_nil, or_false] at hx
  rcases hx with rfl | rfl | rfl | rfl | rfl | rfl | rfl | rfl | rfl | rfl | rfl | rfl
  · exact BV.no (by decide +kernel) rfl rfl
  · exact BV.no (by decide +kernel) rfl rfl
  · exact BV.no (by decide +kernel) rfl rfl
  · exact BV.no (by decide +kernel) rfl rfl
  · exact BV.no (by decide +kernel) rfl rfl
  · exact BV.tup (by simp) (by simp)
  · exact BV.tup (by intro y hy; simp only [List.mem_cons, List.not_mem_nil, or_false] at hy; subst hy; exact It.sc (by omega)) (by simp)
  · exact BV.lst (by intro y hy; simp only [List.mem_cons, List.not_mem_nil, or_false] at hy; rcases hy with rfl | rfl <;> exact It.sc (by omega)) (by simp)
  · exact BV.tup (by intro y hy; simp only [List.mem_cons, List.not_mem_nil, or_false] at hy; rcases hy with rfl | rfl | rfl <;> exact It.sc (by omega)) (by simp)
  · exact BV.tup (by intro y hy; simp only [List.mem_cons, List.not_mem_nil, or_false] at hy; rcases hy with rfl | rfl; exact It.tru; exact It.sc (by omega)) (by simp)
  · exact BV.tup (by intro y hy; simp only [List.mem_cons, List.not_mem_nil, or_false] at hy; rcases hy with rfl | rfl <;> exact It.sc (by omega)) (by simp)
  · exact BV.tup (by intro y hy; simp only [List.mem_cons, List.not_mem_nil, or_false] at hy; rcases hy with rfl | rfl <;> exact It.sc (by omega)) (by simp)
theorem It.b (h2 : m ≤ 4) (h3 : n ≤ 4) {q : Int × Int × Int} (h : okB m n q) : It (bD q) := It.pair (okF_int h.1.1 (by have := h.1.2; omega)) (Cz.cell (by have := h.2.1; omega) (by have := h.2.2; omega))
/-- a base that the bent values are made of -/
structure Bs (m n : Nat) (ps : List (Int × Int × Int)) : Prop where
  b : ∀ q ∈ ps, okB m n q
  l1 : 1 ≤ ps.length
  l2 : ps.length ≤ 2
theorem w_bent (v : Pc A m n 4) (m1 : 1 ≤ m) (m2 : m ≤ 4) (n1 : 1 ≤ n) (n2 : n ≤ 4) {ps : List (Int × Int × Int)} (h : Bs m n ps) {a b : Int} {Q : SD × List SD → Prop} (hQ : ∀ x a' b', BV x → Q (.d x, [P a' b', .d (tT A), .d (.list (ps.map bD))])) :
    OV (m__law_bent [P a b, .d (tT A), .d (.list (ps.map bD))]) Q := by
  have l1 := h.l1
  have l2 := h.l2
  obtain ⟨r, hr1, hr2⟩ := v.row0 m1
  have lA := v.l
  rw [m__law_bent, OV_defn]
  simp
  apply w_draw (by omega) (by omega)
  intro i a b i1 i2
  have hq0 := atI_nth i1 i2
  have mq := h.b _ (nth_mem i1 i2)
  obtain ⟨q, hq⟩ : ∃ q, q = nth ps i := ⟨_, rfl⟩
  rw [← hq] at hq0 mq
  obtain ⟨c, w, p⟩ := q
  simp [hq0, bD]
  apply w_pick (by simp) (by simp)
  intro odd a b hodd
  have hodd : odd ∈ odds := hodd
  simp [lA]
  apply w_draw (by omega) (by omega)
  intro e1 a b e2 e3
  simp [hr1, hr2]
  apply w_draw (by omega) (by omega)
  intro f1 a b f2 f3
  simp
  apply w_draw (by omega) (by omega)
  intro g1 a b g2 g3
  simp
  apply w_pick (by simp) (by simp)
  intro y a b hy
  have Fc : okF (.int c) := okF_int mq.1.1 (by have := mq.1.2; simp only [] at this; omega)
  have Fg : okF (.int g1) := okF_int g2 (by omega)
  have Ce : Cz (.tuple [.int e1, .int f1]) := Cz.cell (by omega) (by omega)
  have Cc : Cz (.tuple [.int w, .int p]) := Cz.cell (by have := mq.2.1; simp only [] at this; omega) (by have := mq.2.2; simp only [] at this; omega)
  have hy : It y := by
    simp only [List.mem_cons, List.not_mem_nil, or_false] at hy
    rcases hy with rfl | rfl | rfl | rfl | rfl | rfl | rfl
    · exact It.pair Fc Ce
    · exact It.pair Fc Ce
    · exact It.pair Fg Cc
    · exact It.pair Fc (Cz.odd hodd)
    · exact It.pair (odds_F _ hodd) Cc
    · exact It.lst Fc Cc
    · exact It.one Fc
  obtain ⟨L, hL⟩ : ∃ L, L = ps.map bD := ⟨_, rfl⟩
  have iL : ∀ x ∈ L, It x := fun x hx => by
    rw [hL] at hx
    obtain ⟨q, hq, rfl⟩ := List.mem_map.mp hx
    exact It.b m2 n2 (h.b q hq)
  have lL : L.length = ps.length := by rw [hL, List.length_map]
  obtain ⟨T, hT⟩ : ∃ T, T = L.take i.toNat := ⟨_, rfl⟩
  obtain ⟨D, hD⟩ : ∃ D, D = L.drop (i + 1).toNat := ⟨_, rfl⟩
  obtain ⟨U, hU⟩ : ∃ U, U = L.take (1 : Int).toNat := ⟨_, rfl⟩
  have c1 : cutD L none (some i) = T := by rw [hT]; exact cutI_to i1
  have c2 : cutD L (some (i + 1)) none = D := by rw [hD]; exact cutI_from (by omega)
  have c3 : cutD L none (some 1) = U := by rw [hU]; exact cutI_to (by omega)
  have iT : ∀ x ∈ T, It x := fun x hx => iL x (by rw [hT] at hx; exact List.mem_of_mem_take hx)
  have iD : ∀ x ∈ D, It x := fun x hx => iL x (by rw [hD] at hx; exact List.mem_of_mem_drop hx)
  have iU : ∀ x ∈ U, It x := fun x hx => iL x (by rw [hU] at hx; exact List.mem_of_mem_take hx)
  have lT : T.length ≤ 2 := by rw [hT]; simp; omega
  have lD : D.length ≤ 2 := by rw [hD]; simp; omega
  have lU : U.length ≤ 2 := by rw [hU]; simp; omega
  rw [← hL] at hQ ⊢
  clear hL hT hD hU
  simp [c1, c2, c3, show T.length + 1 ≤ 100000 by omega, show T.length + (1 + D.length) ≤ 100000 by omega, show T.length + 1 + D.length ≤ 100000 by omega, show T.length + D.length ≤ 100000 by omega, show L.length + U.length ≤ 100000 by omega, dRev]
  apply w_pick (by simp) (by simp)
  intro x a b hx
  simp
  apply hQ
  have app : ∀ {X Y : List PyData}, (∀ x ∈ X, It x) → (∀ x ∈ Y, It x) → ∀ x ∈ X ++ Y, It x := fun h1 h2 x hx => (List.mem_append.mp hx).elim (h1 x) (h2 x)
  simp only [List.mem_cons, List.not_mem_nil, or_false] at hx
  have B1 : BV (.list (T ++ y :: D)) := BV.lst (app iT fun x hx => (List.mem_cons.mp hx).elim (fun e => by rw [e]; exact hy) (iD x)) (by simp; omega)
  rcases hx with rfl | rfl | rfl | rfl | rfl | rfl | rfl | rfl
  · exact B1
  · exact B1
  · exact B1
  · exact BV.lst (app iT iD) (by simp; omega)
  · exact BV.lst (app iL iU) (by simp; omega)
  · exact BV.lst (fun x hx => iL x (List.mem_reverse.mp hx)) (by simp; omega)
  · exact BV.tup iL (by omega)
  · exact odds_B _ hodd
end PK81

set_option Elab.async false
set_option linter.all false
set_option maxRecDepth 100000
set_option maxHeartbeats 4000000
namespace PK81
open PySem DL
variable {A B : List (List Int)} {m n : Nat}
theorem repr_bb (b : Bool) : dRepr [.list [.bool b, .bool b]] = some (.str (PyData.list [.bool b, .bool b]).shown) := by
  apply dRepr_ok
  cases b <;> decide +kernel
theorem e_is_full {v : PyData} (h : okFull v) : m_is_full [.d v] = some (.d (.bool (fullV v)), [.d v]) := by
  apply OV.eq
  rw [m_is_full, OV_defn]
  simp [e_is_full_value h]
theorem dAddL_l (x y : List PyData) : dAddL (.list x) (.list y) = if x.length + y.length ≤ 100000 then some (x ++ y) else none := rfl
theorem bD0 (q : Int × Int × Int) : dIx (bD q) (.int 0) = some (.int q.1) := by
  unfold bD; show L2.atI _ 0 = _; rw [atI_of (by omega)]; rfl
/-- behind the bar: the law's second half -/
theorem w_right (a b : Int) : OV (m__law_right [P a b]) fun q => ∃ a' b', q = (.d (.bool true), [P a' b']) := by
  rw [m__law_right, OV_defn]
  simp
  apply w_pictures
  intro xs a b hxs lxs
  simp
  apply WFor.invA (fun pre S => ∃ t1 t2 t3, S = [P a b, t1, t2, t3, .un, .un, .un, .un, .un, .un, .un, .un, .un, .un]) ⟨_, _, _, rfl⟩
  · rintro pre x post S he ⟨t1, t2, t3, rfl⟩
    have hx := hxs x (by rw [he]; simp)
    have g1 := e_law_is_full hx.1
    have g2 := e_is_full hx.1
    have g3 := dRepr_ok hx.2
    have g4 := repr_bb (fullV x)
    simp [g1, g2, g3, g4, perm]
    exact ⟨_, _, _, rfl⟩
  · rintro S ⟨t1, t2, t3, rfl⟩
    simp
    apply w_both (by omega) (by omega) (by omega) (by omega)
    intro A B m n a b pA pB m1 m2 n1 n2
    have t : Two A B m n := ⟨pA, pB, m1, by omega, n1, by omega⟩
    obtain ⟨r, a1, a2⟩ := pA.at (w := 0) (p := 0) (by omega) (by omega) (by omega) (by omega)
    obtain ⟨s, b1, b2⟩ := pB.at (w := 0) (p := 0) (by omega) (by omega) (by omega) (by omega)
    have k1 : dSortedL [.list [.int (cl A 0 0), .int (cl B 0 0)]] = some ((sortI [cl A 0 0, cl B 0 0]).map .int) := sort_lI [cl A 0 0, cl B 0 0]
    obtain ⟨x, y, hd, hS⟩ := due_of A B
    rw [hd] at k1
    have k1 : dSortedL [.list [.int (cl A 0 0), .int (cl B 0 0)]] = some [.int x, .int y] := k1
    have j0 : L2.atI [PyData.int x, PyData.int y] 0 = some (.int x) := by rw [atI_of (by omega)]; rfl
    have j1 : L2.atI [PyData.int x, PyData.int y] 1 = some (.int y) := by rw [atI_of (by omega)]; rfl
    have j2 : cutD [PyData.int x, PyData.int y] none (some 1) = [.int x] := cutI_to (xs := [PyData.int x, PyData.int y]) (k := 1) (by omega)
    have j3 : cutD [PyData.int x, PyData.int y] none (some 2) = [.int x, .int y] := cutI_to (xs := [PyData.int x, PyData.int y]) (k := 2) (by omega)
    have S0l := S0_len A B
    have S0m := S0_mem t
    have zb : ∀ c ∈ S0 A B, okB m n (c, 0, 0) := fun c hc => ⟨S0m c hc, ⟨Int.le_refl 0, by show (0 : Int) < m; omega⟩, Int.le_refl 0, by show (0 : Int) < n; omega⟩
    simp
    apply w_side_bar t
    case' k0 =>
      by_cases hxy : x = y
      case' pos =>
        have e : PyData.list [.tuple [.int x, .tuple [.int 0, .int 0]]] = .list ([(x, 0, 0)].map bD) := rfl
        have hps : Bs m n [(x, 0, 0)] := ⟨fun q hq => by rw [List.mem_singleton] at hq; subst hq; exact zb x (by rw [hS, if_pos hxy]; simp), by simp, by simp⟩
        subst hxy
        simp [a1, a2, b1, b2, k1, j0, j1, j2, -w_binL]
        rw [e]
        generalize [((x, 0, 0) : Int × Int × Int)] = ps at hps
      case' neg =>
        have e : PyData.list [.tuple [.int x, .tuple [.int 0, .int 0]], .tuple [.int y, .tuple [.int 0, .int 0]]] = .list ([(x, 0, 0), (y, 0, 0)].map bD) := rfl
        have hps : Bs m n [(x, 0, 0), (y, 0, 0)] := ⟨fun q hq => by
          simp only [List.mem_cons, List.not_mem_nil, or_false] at hq
          rcases hq with rfl | rfl
          · exact zb x (by rw [hS, if_neg hxy]; simp)
          · exact zb y (by rw [hS, if_neg hxy]; simp), by simp, by simp⟩
        simp [a1, a2, b1, b2, k1, j0, j1, j3, hxy, -w_binL]
        rw [e]
        generalize [((x, 0, 0) : Int × Int × Int), (y, 0, 0)] = ps at hps
    case' k =>
      intro ps h1 h2
      have hps : Bs m n ps := ⟨h1, by omega, by omega⟩
      simp [a1, a2, b1, b2, k1, -w_binL]
    all_goals
      have ib : ∀ z ∈ ps.map bD, It z := fun z hz => by
        obtain ⟨q, hq, rfl⟩ := List.mem_map.mp hz
        exact It.b t.m2 t.n2 (hps.b q hq)
      have l1 := hps.l1
      have l2 := hps.l2
      have B1 : BV (.list (ps.map bD)) := BV.lst ib (by simp; omega)
      have B2 : BV (.tuple (ps.map bD)) := BV.tup ib (by simp; omega)
      simp [rngI_int (show (0 : Int) ≤ 16 by decide) (by decide)]
      apply WLc.potE (fun x : PyData => x) (fun x => BV x) (fun x hx a b => by
        simp
        apply w_bent t.a t.m1 t.m2 t.n1 t.n2 hps
        intro y a b hy
        simp
        exact hy)
      intro ys a b hys1 hys2
      simp at hys1
      simp [dAddL_l, hys1, pA.l, rngI_nat m (show m ≤ 100000 by omega)]
      obtain ⟨vs, hvs⟩ : ∃ vs, vs = PyData.list (ps.map bD) :: .tuple (ps.map bD) :: .none :: .list [] :: .tuple [] :: .dict [] :: .int 0 :: .list [.none] :: ys := ⟨_, rfl⟩
      have bvs : ∀ v ∈ vs, BV v := fun v hv => by
        rw [hvs] at hv
        simp only [List.mem_cons] at hv
        rcases hv with rfl | rfl | rfl | rfl | rfl | rfl | rfl | rfl | hv
        · exact B1
        · exact B2
        · exact BV.no (by decide +kernel) rfl rfl
        · exact BV.lst (by simp) (by simp)
        · exact BV.tup (by simp) (by simp)
        · exact BV.no (by decide +kernel) rfl rfl
        · exact BV.no (by decide +kernel) rfl rfl
        · exact BV.lst (fun z hz => by rw [List.mem_singleton] at hz; subst hz; exact It.non) (by simp)
        · exact hys2 v hv
      have lvs : vs.length = 24 := by rw [hvs]; simp [hys1]
      rw [← hvs]
      clear hvs
      obtain ⟨r', a1', hr'⟩ := pA.row0 t.m1
      obtain ⟨q0, hq0, mq0⟩ : ∃ q0, L2.atI ps 0 = some q0 ∧ q0 ∈ ps := ⟨_, atI_nth (by omega) (by omega), nth_mem (by omega) (by omega)⟩
      have bq0 := hps.b q0 mq0
      obtain ⟨D, hD⟩ : ∃ D, D = (ps.map bD).drop (1 : Int).toNat := ⟨_, rfl⟩
      have cD : cutD (ps.map bD) (some 1) none = D := by rw [hD]; exact cutI_from (by omega)
      have iD : ∀ x ∈ D, It x := fun x hx => ib x (by rw [hD] at hx; exact List.mem_of_mem_drop hx)
      have lD : D.length ≤ 2 := by rw [hD]; simp; omega
      clear hD
      apply WFor.invOfA PyData.int (fun pre S => ∃ t1 t2 t3 t8 vs, S = [P a b, t1, t2, t3, .d (tT A), .d (tT B), .d (.list (ps.map bD)), .own false vs, t8, .un, .un, .un, .un, .un] ∧ (∀ v ∈ vs, BV v) ∧ vs.length ≤ 24 + 4 * pre.length) ⟨_, _, _, _, vs, rfl, bvs, by simp; omega⟩
      · rintro pre w post S he ⟨t1, t2, t3, t8, vs, rfl, bvs, lvs⟩
        have hw := mem_upto.mp (show w ∈ upto m by rw [he]; simp)
        have hpre : pre.length < m := by have := congrArg List.length he; simp at this; omega
        simp [a1', hr', rngI_nat n (show n ≤ 100000 by omega)]
        refine ⟨by omega, ?_⟩
        apply WLc.mapOf PyData.int (fun p => .list (.tuple [.int q0.1, .tuple [.int w, .int p]] :: D)) (fun p hp => by
          simp [hq0, bD0, cD, show 1 + D.length ≤ 100000 by omega])
        simp
        obtain ⟨Y, hY⟩ : ∃ Y, Y = (upto n).map (fun p => PyData.list (.tuple [.int q0.1, .tuple [.int w, .int p]] :: D)) := ⟨_, rfl⟩
        have iY : ∀ v ∈ Y, BV v := fun v hv => by
          rw [hY] at hv
          obtain ⟨p, hp, rfl⟩ := List.mem_map.mp hv
          have hp := mem_upto.mp hp
          have hw2 := t.m2
          have hn2 := t.n2
          exact BV.lst (fun z hz => (List.mem_cons.mp hz).elim (fun e => by rw [e]; exact It.pair (okF_int bq0.1.1 (by have := bq0.1.2; omega)) (Cz.cell (by omega) (by omega))) (iD z)) (by simp; omega)
        have lY : Y.length = n := by rw [hY]; simp
        have hm4 := t.m2
        have hn4 := t.n2
        have me : mExtend vs [.list Y] = some (.none, vs ++ Y) := if_pos (by omega)
        rw [← hY]
        simp [me]
        exact ⟨_, _, _, _, vs ++ Y, rfl, fun v hv => (List.mem_append.mp hv).elim (bvs v) (iY v), by simp; omega⟩
      · rintro S ⟨t1, t2, t3, t8, vs, rfl, bvs, lvs⟩
        simp [-w_forCons]
        apply WFor.invA (fun pre S => ∃ t1 t2 t3 t8 t9 t10, S = [P a b, t1, t2, t3, .d (tT A), .d (tT B), .d (.list (ps.map bD)), .d (.list vs), t8, t9, t10, .un, .un, .un]) ⟨_, _, _, _, _, _, rfl⟩
        · rintro pre v post S he ⟨t1, t2, t3, t8, t9, t10, rfl⟩
          have hv := bvs v (by rw [he]; simp)
          obtain ⟨J, g1, g2⟩ := hv.judged t
          have g3 := dRepr_ok hv.r
          have g4 := repr_bb J
          simp [g1, g2, g3, g4, perm]
          exact ⟨_, _, _, _, _, _, rfl⟩
        · rintro S ⟨t1, t2, t3, t8, t9, t10, rfl⟩
          simp
end PK81

set_option Elab.async false
set_option linter.all false
set_option maxRecDepth 100000
set_option maxHeartbeats 4000000
namespace PK81
open PySem DL
theorem w_pot (ns : List Int) (k : Int) (h : 0 ≤ k) {Q : SD × List SD → Prop} (hQ : ∀ x y, Q (.own false [.int x, .int y], [.d (scrD ns), .d (.int k)])) : OV (m__law_pot [.d (scrD ns), .d (.int k)]) Q := by
  have p1 : L2.CPow 10 18 := ⟨by decide, by decide, by decide⟩
  have p2 : L2.CMul 1069 k := .inl ⟨by decide, by decide⟩
  have p3 : L2.CMul 9319 k := .inl ⟨by decide, by decide⟩
  have p4 (t : Int) : L2.CMul t 40014 := .inr ⟨by decide, by decide⟩
  have l1 : dLen [scrD ns] = some (.int ns.length) := by show some (PyData.int (ns.map PyData.int).length) = _; rw [List.length_map]
  have l2 : dIx (scrD ns) (.int k) = (L2.atI ns k).map .int := atI_map _ _ _
  rw [m__law_pot, OV_defn]
  by_cases hk : k < ns.length
  · simp [p1, p2, p3, p4, l1, l2, hk, atI_nth h hk]
    exact hQ _ _
  · simp [p1, p2, p3, p4, l1, hk]
    exact hQ _ _
theorem lawM : DL.LawM 63 m_law := fun ns hn => by
  apply OV.eq
  have l1 : dLen [scrD ns] = some (.int ns.length) := by show some (PyData.int (ns.map PyData.int).length) = _; rw [List.length_map]
  obtain ⟨N, hN1, hN2⟩ : ∃ N : Int, (0 ≤ N ∧ N ≤ 100) ∧ dMax [.int 1, .int (if (ns.length : Int) < 2 then (ns.length : Int) else 2)] = some (.int N) := by
    refine ⟨_, ?_, dMax_ii _ _⟩
    split <;> split <;> omega
  rw [m_law, OV_defn]
  simp [-dMax_ii, l1, hN2, rngI_int hN1.1 (show N ≤ 100000 by omega)]
  refine ⟨by omega, ?_⟩
  apply WLc.mapOf PyData.int (fun _ => .bool true) (fun k hk => by
    have := mem_upto.mp hk
    simp
    apply w_pot ns k this.1
    intro x y
    simp
    refine OV.use (w_right x y) ?_
    rintro q ⟨a, b, rfl⟩
    simp)
  have al := all_map (fun _ : Int => true) (upto N.toNat)
  simp [al]
end PK81

open PySem PySem.W PyProof.Rows
set_option maxHeartbeats 0 in
theorem PySem.Challenge.cw_onecloth_k81_any_value_as_full_picture_o_holds : PySem.Challenge.rw_onecloth_k81_any_value_as_full_picture_o.Holds := by
  w_on; o_law; k_head; (case hw => w_witness2)
  k_fill
  refine DL.walkG (l := PySem.Challenge.rw_onecloth_k81_any_value_as_full_picture_o) (n := 63) (k := 8) (x := "script") (m := PK81.m_law) rfl (by decide) rfl ⟨rfl, by decide, by decide⟩ (fun w h Y => PySem.W.kIn_of Y) ?F PK81.lawM
  case F =>
    intro w mg fa h KX G hmg
    refine' PK81.all_mk KX G hmg ?a__law_sides ?l__law_sides ?d__law_sides ?k__law_sides ?a__law_draw ?l__law_draw ?d__law_draw ?k__law_draw ?a__law_colours ?l__law_colours ?d__law_colours ?k__law_colours ?a__law_draft ?l__law_draft ?d__law_draft ?k__law_draft ?a__law_both ?l__law_both ?d__law_both ?k__law_both ?a__law_pictures ?l__law_pictures ?d__law_pictures ?k__law_pictures ?a_is_integer ?l_is_integer ?d_is_integer ?k_is_integer ?a_is_within ?l_is_within ?d_is_within ?k_is_within ?a_is_full_value ?l_is_full_value ?d_is_full_value ?k_is_full_value ?a_want_full ?l_want_full ?d_want_full ?k_want_full ?a_want_both ?l_want_both ?d_want_both ?k_want_both ?a_other_of ?l_other_of ?d_other_of ?k_other_of ?a_both_at ?l_both_at ?d_both_at ?k_both_at ?a_told_by ?l_told_by ?d_told_by ?k_told_by ?a_are_both ?l_are_both ?d_are_both ?k_are_both ?a_is_wrong_at ?l_is_wrong_at ?d_is_wrong_at ?k_is_wrong_at ?a_first_wrong ?l_first_wrong ?d_first_wrong ?k_first_wrong ?a_starts_of ?l_starts_of ?d_starts_of ?k_starts_of ?a_side_bar ?l_side_bar ?d_side_bar ?k_side_bar ?a_is_list ?l_is_list ?d_is_list ?k_is_list ?a_is_tuple ?l_is_tuple ?d_is_tuple ?k_is_tuple ?a_many_warps ?l_many_warps ?d_many_warps ?k_many_warps ?a_many_wefts ?l_many_wefts ?d_many_wefts ?k_many_wefts ?a_is_cell_of ?l_is_cell_of ?d_is_cell_of ?k_is_cell_of ?a_is_count ?l_is_count ?d_is_count ?k_is_count ?a_is_side_bar ?l_is_side_bar ?d_is_side_bar ?k_is_side_bar ?a__law_is_full ?l__law_is_full ?d__law_is_full ?k__law_is_full ?a__law_pick ?l__law_pick ?d__law_pick ?k__law_pick ?a__law_bent ?l__law_bent ?d__law_bent ?k__law_bent ?a__law_other ?l__law_other ?d__law_other ?k__law_other ?a__law_is_wrong ?l__law_is_wrong ?d__law_is_wrong ?k__law_is_wrong ?a__law_is_cell ?l__law_is_cell ?d__law_is_cell ?k__law_is_cell ?a__law_is_bar ?l__law_is_bar ?d__law_is_bar ?k__law_is_bar ?a_is_full ?l_is_full ?d_is_full ?k_is_full ?a__law_right ?l__law_right ?d__law_right ?k__law_right ?a__law_pot ?l__law_pot ?d__law_pot ?k__law_pot ?a_law ?l_law ?d_law ?k_law ?z_abs ?z_all ?z_any ?z_bool ?z_divmod ?z_enumerate ?z_int ?z_isinstance ?z_len ?z_list ?z_max ?z_min ?z_range ?z_repr ?z_sorted ?z_tuple ?q_MOST ?q_MOST_COLOUR
    (case a__law_sides => k_is); (case l__law_sides => k_is); (case d__law_sides => k_is); (case k__law_sides => k_is); (case a__law_draw => k_is); (case l__law_draw => k_is); (case d__law_draw => k_is); (case k__law_draw => k_is)
    (case a__law_colours => k_is); (case l__law_colours => k_is); (case d__law_colours => k_is); (case k__law_colours => k_is); (case a__law_draft => k_is); (case l__law_draft => k_is); (case d__law_draft => k_is); (case k__law_draft => k_is)
    (case a__law_both => k_is); (case l__law_both => k_is); (case d__law_both => k_is); (case k__law_both => k_is); (case a__law_pictures => k_is); (case l__law_pictures => k_is); (case d__law_pictures => k_is); (case k__law_pictures => k_is)
    (case a_is_integer => k_is); (case l_is_integer => k_is); (case d_is_integer => k_is); (case k_is_integer => k_is); (case a_is_within => k_is); (case l_is_within => k_is); (case d_is_within => k_is); (case k_is_within => k_is)
    (case a_is_full_value => k_is); (case l_is_full_value => k_is); (case d_is_full_value => k_is); (case k_is_full_value => k_is); (case a_want_full => k_is); (case l_want_full => k_is); (case d_want_full => k_is); (case k_want_full => k_is)
    (case a_want_both => k_is); (case l_want_both => k_is); (case d_want_both => k_is); (case k_want_both => k_is); (case a_other_of => k_is); (case l_other_of => k_is); (case d_other_of => k_is); (case k_other_of => k_is)
    (case a_both_at => k_is); (case l_both_at => k_is); (case d_both_at => k_is); (case k_both_at => k_is); (case a_told_by => k_is); (case l_told_by => k_is); (case d_told_by => k_is); (case k_told_by => k_is)
    (case a_are_both => k_is); (case l_are_both => k_is); (case d_are_both => k_is); (case k_are_both => k_is); (case a_is_wrong_at => k_is); (case l_is_wrong_at => k_is); (case d_is_wrong_at => k_is); (case k_is_wrong_at => k_is)
    (case a_first_wrong => k_is); (case l_first_wrong => k_is); (case d_first_wrong => k_is); (case k_first_wrong => k_is); (case a_starts_of => k_is); (case l_starts_of => k_is); (case d_starts_of => k_is); (case k_starts_of => k_is)
    (case a_side_bar => k_is); (case l_side_bar => k_is); (case d_side_bar => k_is); (case k_side_bar => k_is); (case a_is_list => k_is); (case l_is_list => k_is); (case d_is_list => k_is); (case k_is_list => k_is)
    (case a_is_tuple => k_is); (case l_is_tuple => k_is); (case d_is_tuple => k_is); (case k_is_tuple => k_is); (case a_many_warps => k_is); (case l_many_warps => k_is); (case d_many_warps => k_is); (case k_many_warps => k_is)
    (case a_many_wefts => k_is); (case l_many_wefts => k_is); (case d_many_wefts => k_is); (case k_many_wefts => k_is); (case a_is_cell_of => k_is); (case l_is_cell_of => k_is); (case d_is_cell_of => k_is); (case k_is_cell_of => k_is)
    (case a_is_count => k_is); (case l_is_count => k_is); (case d_is_count => k_is); (case k_is_count => k_is); (case a_is_side_bar => k_is); (case l_is_side_bar => k_is); (case d_is_side_bar => k_is); (case k_is_side_bar => k_is)
    (case a__law_is_full => k_is); (case l__law_is_full => k_is); (case d__law_is_full => k_is); (case k__law_is_full => k_is); (case a__law_pick => k_is); (case l__law_pick => k_is); (case d__law_pick => k_is); (case k__law_pick => k_is)
    (case a__law_bent => k_is); (case l__law_bent => k_is); (case d__law_bent => k_is); (case k__law_bent => k_is); (case a__law_other => k_is); (case l__law_other => k_is); (case d__law_other => k_is); (case k__law_other => k_is)
    (case a__law_is_wrong => k_is); (case l__law_is_wrong => k_is); (case d__law_is_wrong => k_is); (case k__law_is_wrong => k_is); (case a__law_is_cell => k_is); (case l__law_is_cell => k_is); (case d__law_is_cell => k_is); (case k__law_is_cell => k_is)
    (case a__law_is_bar => k_is); (case l__law_is_bar => k_is); (case d__law_is_bar => k_is); (case k__law_is_bar => k_is); (case a_is_full => k_is); (case l_is_full => k_is); (case d_is_full => k_is); (case k_is_full => k_is)
    (case a__law_right => k_is); (case l__law_right => k_is); (case d__law_right => k_is); (case k__law_right => k_is); (case a__law_pot => k_is); (case l__law_pot => k_is); (case d__law_pot => k_is); (case k__law_pot => k_is)
    (case a_law => k_is); (case l_law => k_is); (case d_law => k_is); (case k_law => k_is); (case z_abs => k_is); (case z_all => k_is); (case z_any => k_is); (case z_bool => k_is)
    (case z_divmod => k_is); (case z_enumerate => k_is); (case z_int => k_is); (case z_isinstance => k_is); (case z_len => k_is); (case z_list => k_is); (case z_max => k_is); (case z_min => k_is)
    (case z_range => k_is); (case z_repr => k_is); (case z_sorted => k_is); (case z_tuple => k_is); (case q_MOST => k_is); (case q_MOST_COLOUR => k_is)

